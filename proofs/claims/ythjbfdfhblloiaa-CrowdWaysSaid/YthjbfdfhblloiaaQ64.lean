/- Contracts of functions that the claim reaches: what each call gives, told in our own logic. Conditions: those of each theorem. -/
import Derived.Test.YthjbfdfhblloiaaW3
import Derived.Test.YthjbfdfhblloiaaQ31
import Derived.Test.YthjbfdfhblloiaaBaseD
import Derived.Test.YthjbfdfhblloiaaQ17
import Derived.Test.YthjbfdfhblloiaaW2
import Derived.Test.YthjbfdfhblloiaaBaseC
import Derived.Test.YthjbfdfhblloiaaQ62
import Derived.Test.YthjbfdfhblloiaaQ63
set_option linter.all false
set_option linter.unusedSimpArgs false
set_option linter.unusedVariables false
namespace Go.Proofs.Ythjbfdfhblloiaa
open Go.Av
attribute [local irreducible] thenA blockA awp awpOps awpD awp1
set_option maxHeartbeats 8000000
set_option maxRecDepth 20000
structure ClS where
  i : Nat
  x : Int
  v : AV
  c : List Int
  g : AH
theorem c27 (b : Nat × Nat) (t : Tw) (hsn : t.sts.length ≤ 12) : Drum Try.prog 27 [.ptr b 0 0, t.av] b (fun v => ∃ c : List Int, v = .lst 1 (c.map iv) ∧ ClOk t c t.sts.length) := by
  refine Drum.give Try.call27 fun h x hx hu hold => ?_
  have nbb : ∀ {b1 : Nat × Nat}, h.clk ≤ b1.1 → ¬ b1 = b := fun hb e => by rw [e] at hb; omega
  refine ACalls.of tab mixed Try.call27 Try.func27 rfl (fi := ⟨21, [], [3, 18], none, []⟩) rfl rfl (Nat.le_of_ble_eq_true rfl) (by decide) ?_
  unfold startA
  simp only [go_sem]
  repeat' (first | refine st_seq_reg rfl (by first | (simp only [go_sem]; rfl) | rfl) (by first | (simp only [go_sem]; rfl) | rfl) ?_ | refine st_op ?_ | refine st_det rfl (by simp (disch := omega) only [go_sem, wr_i64, if_yes, if_no, ↓reduceIte, Nat.reduceAdd, Nat.reduceMul, Nat.reduceEqDiff, Nat.reduceBEq, Nat.reduceLeDiff]; rfl) ?_ | refine st_nil ?_ | refine st_seq ?_ | refine st_block ?_)
  refine st_loopH (α := ClS) tab mixed [] [] (by repeat (first | exact trivial | refine ⟨rfl, ?_⟩)) [] [] (by repeat (first | exact trivial | refine ⟨rfl, ?_⟩)) (fun a => [(6, .int .i64 (a.i : Nat)), (5, a.v)]) [(0, _), (3, _)] (fun _ => []) [] (fun a => a.g) (fun a => Gd h b a.x a.g ∧ a.i ≤ t.sts.length ∧ SlA h.clk a.g a.v 1 (a.c.map iv) ∧ ClOk t a.c a.i) (fun a => t.sts.length - a.i) (by decide) ⟨0, x, .nils, [], h⟩ ⟨⟨hu, hx, fun _ _ _ => rfl, rfl, Nat.le_refl _⟩, Nat.zero_le _, .inl ⟨rfl, rfl⟩, ⟨Nat.le_refl _, fun i hi => absurd hi (Nat.not_lt_zero _), fun i _ hi => absurd hi (Nat.not_lt_zero _)⟩⟩ (by (try simp only [go_sem]); repeat' (first | exact trivial | refine And.intro ?_ ?_ | rfl | (simp (disch := omega) only [go_sem, if_yes, if_no, ↓reduceIte, Nat.reduceAdd, Nat.reduceMul, Nat.reduceEqDiff, Nat.reduceBEq, Nat.reduceLeDiff]; rfl) | (simp (disch := omega) only [go_sem, if_yes, if_no, ↓reduceIte, Nat.reduceAdd, Nat.reduceMul, Nat.reduceEqDiff, Nat.reduceBEq, Nat.reduceLeDiff]))) (by (try simp only [go_sem]); repeat' (first | exact trivial | refine And.intro ?_ ?_ | rfl | (simp (disch := omega) only [go_sem, if_yes, if_no, ↓reduceIte, Nat.reduceAdd, Nat.reduceMul, Nat.reduceEqDiff, Nat.reduceBEq, Nat.reduceLeDiff]; rfl) | (simp (disch := omega) only [go_sem, if_yes, if_no, ↓reduceIte, Nat.reduceAdd, Nat.reduceMul, Nat.reduceEqDiff, Nat.reduceBEq, Nat.reduceLeDiff]))) (HOld.tick (by simp only [go_sem]; omega)) ?_
  rintro ⟨i, x1, v, c, g⟩ d ⟨hG, i1, hS, hC⟩ hd
  dsimp only at hG i1 hS hC hd
  have hu1 := hG.u
  have hd1 := hG.d
  have hgc := hG.cl
  simp only [go_sem]
  by_cases hi : i < t.sts.length
  case neg =>
    obtain rfl : i = t.sts.length := by omega
    repeat' (first | refine st_seq_reg rfl (by first | (simp only [go_sem, List.length_map]; rfl) | rfl) (by first | (simp only [go_sem, List.length_map]; rfl) | rfl) ?_ | refine st_op ?_ | refine st_det rfl (by simp (disch := omega) only [go_sem, wr_i64, if_yes, if_no, ↓reduceIte, Nat.reduceAdd, Nat.reduceMul, Nat.reduceEqDiff, Nat.reduceBEq, Nat.reduceLeDiff, List.length_map]; rfl) ?_ | (refine st_condS rfl ?_ ?_ <;> intro hg <;> (try simp only [decide_eq_true_eq, decide_eq_false_iff_not, Bool.not_eq_true', Bool.not_eq_false'] at hg)) | refine st_nil ?_ | refine st_tN ?_ | refine st_seq ?_ | refine st_block ?_ | refine st_skip ?_ | refine st_exit ?_ | refine st_ret ?_ | refine st_tE ?_ | refine st_bH ?_)
    all_goals try (exfalso; omega)
    simp (disch := omega) only [AEnd, Try.results27, aresK, fin, go_sem, ↓reduceIte, Nat.reduceEqDiff, Nat.reduceAdd, Nat.reduceLeDiff, if_yes, if_no, implies_true, true_and, and_true, List.reverse_cons, List.reverse_nil]
    refine ⟨hS.noL, hG.old, ⟨x1, hd1, hu1⟩, hG.lp, SlA.ans (h := h) (g := g) (R := fun v => ∃ c : List Int, v = .lst 1 (c.map iv) ∧ ClOk t c t.sts.length) hS ⟨c, rfl, hC⟩⟩
  have hnc := hS.noL
  have hcl := hC.len
  repeat' (first | refine st_seq_reg rfl (by first | (simp only [go_sem, hd1, hnc, List.length_map]; rfl) | rfl) (by first | (simp only [go_sem, hd1, hnc, List.length_map]; rfl) | rfl) ?_ | refine st_reg rfl (by first | (simp only [go_sem, hd1, hnc, List.length_map]; rfl) | rfl) (by first | (simp only [go_sem, hd1, hnc, List.length_map]; rfl) | rfl) ?_ | refine st_op ?_ | refine st_det rfl (by simp (disch := omega) only [go_sem, wr_i64, if_yes, if_no, ↓reduceIte, Nat.reduceAdd, Nat.reduceMul, Nat.reduceEqDiff, Nat.reduceBEq, Nat.reduceLeDiff, hd1, hnc, List.length_map]; rfl) ?_ | (refine st_drum (by first | (simp (disch := omega) only [go_sem, hd1, hnc, List.length_map]; rfl) | rfl) rfl (c43 b 3 (by decide)) (by first | (simp (disch := omega) only [go_sem, hd1, hnc, List.length_map]; rfl) | rfl) (by assumption) (by first | (simp only [go_sem, hd1, hnc, List.length_map]; rfl) | rfl) (by intro x' n; first | (simp (disch := omega) only [go_sem]; rfl) | rfl) ?_; rintro v x' n hu' ⟨rb, rfl⟩ hn) | (refine st_appS (by intro h id x y; simp only [go_sem]; rfl) rfl (by simp only [go_sem, hd1, hnc, List.length_map]; rfl) (by simp only [go_sem, hd1, hnc, List.length_map]; rfl) (by decide) hS (fun b1 m e => by simp only [go_sem, nbb (hS.lt e).1, ↓reduceIte]) (by omega) (by simp only [List.length_map, List.length_cons, List.length_nil, big, hd1, hnc, List.length_map]; omega) (by omega) (by omega) ?_; intro v' g' hA) | (refine st_condS rfl ?_ ?_ <;> intro hg <;> (try simp only [decide_eq_true_eq, decide_eq_false_iff_not, Bool.not_eq_true', Bool.not_eq_false'] at hg)) | refine st_nil ?_ | refine st_tN ?_ | refine st_seq ?_ | refine st_block ?_ | refine st_skip ?_ | refine st_exit ?_ | refine st_ret ?_ | refine st_tE ?_ | refine st_bN ?_ | refine st_bH ?_)
  all_goals try (exfalso; omega)
  · refine ⟨⟨i + 1, x', v', c ++ [((i : Nat) : Int)], _⟩, (by refine ⟨(hG.put (by assumption) (n := n + 1) (by omega)).app hold (Nat.le_refl _) hA (by simp only [go_sem]; omega), by show i + 1 ≤ _; omega, by rw [List.map_append]; exact hA.sl.to (fun _ _ _ _ _ => rfl) (by simp only [go_sem]; omega), hC.add⟩), by show t.sts.length - (i + 1) < t.sts.length - i; omega, (by repeat' (first | exact trivial | refine And.intro ?_ ?_ | rfl | (simp (disch := omega) only [go_sem, if_yes, if_no, ↓reduceIte, Nat.reduceAdd, Nat.reduceMul, Nat.reduceEqDiff, Nat.reduceBEq, Nat.reduceLeDiff]; rfl) | (simp (disch := omega) only [go_sem, if_yes, if_no, ↓reduceIte, Nat.reduceAdd, Nat.reduceMul, Nat.reduceEqDiff, Nat.reduceBEq, Nat.reduceLeDiff]))), (by repeat' (first | exact trivial | refine And.intro ?_ ?_ | rfl | (simp (disch := omega) only [go_sem, if_yes, if_no, ↓reduceIte, Nat.reduceAdd, Nat.reduceMul, Nat.reduceEqDiff, Nat.reduceBEq, Nat.reduceLeDiff]; rfl) | (simp (disch := omega) only [go_sem, if_yes, if_no, ↓reduceIte, Nat.reduceAdd, Nat.reduceMul, Nat.reduceEqDiff, Nat.reduceBEq, Nat.reduceLeDiff]))), rfl, HOld.refl _⟩
  · refine ⟨⟨i + 1, x', v, c, _⟩, (by refine ⟨(hG.put (by assumption) (n := n) (by omega)).tick (by simp only [go_sem]; omega), by show i + 1 ≤ _; omega, slA_put hS hold (by omega), hC.mono (Nat.le_succ _)⟩), by show t.sts.length - (i + 1) < t.sts.length - i; omega, (by repeat' (first | exact trivial | refine And.intro ?_ ?_ | rfl | (simp (disch := omega) only [go_sem, if_yes, if_no, ↓reduceIte, Nat.reduceAdd, Nat.reduceMul, Nat.reduceEqDiff, Nat.reduceBEq, Nat.reduceLeDiff]; rfl) | (simp (disch := omega) only [go_sem, if_yes, if_no, ↓reduceIte, Nat.reduceAdd, Nat.reduceMul, Nat.reduceEqDiff, Nat.reduceBEq, Nat.reduceLeDiff]))), (by repeat' (first | exact trivial | refine And.intro ?_ ?_ | rfl | (simp (disch := omega) only [go_sem, if_yes, if_no, ↓reduceIte, Nat.reduceAdd, Nat.reduceMul, Nat.reduceEqDiff, Nat.reduceBEq, Nat.reduceLeDiff]; rfl) | (simp (disch := omega) only [go_sem, if_yes, if_no, ↓reduceIte, Nat.reduceAdd, Nat.reduceMul, Nat.reduceEqDiff, Nat.reduceBEq, Nat.reduceLeDiff]))), rfl, HOld.refl _⟩
end Go.Proofs.Ythjbfdfhblloiaa

/- Contracts of functions that the claim reaches: what each call gives, told in our own logic. Conditions: those of each theorem. -/
set_option linter.all false
set_option linter.unusedSimpArgs false
set_option linter.unusedVariables false
namespace Go.Proofs.Ythjbfdfhblloiaa
open Go.Av
attribute [local irreducible] thenA blockA awp awpOps awpD awp1
set_option maxHeartbeats 8000000
set_option maxRecDepth 20000
/-! ### All choices, as a list -/
def rowA (r : List Int) : List AV := [.lst 1 (r.map iv)]
def lel (l : List (List Int)) (i : Nat) : List Int := l.getD i []
@[go_sem] theorem rowA_getD {l : List (List Int)} {i : Nat} (h : i < l.length) : (l.map rowA).getD i [] = [.lst 1 ((lel l i).map iv)] := by
  simp [lel, rowA, List.getD_eq_getElem?_getD, h]
def rowsN (bs : Nat → Nat × Nat) (t : List (List Int)) : List (List AV) := (List.range t.length).map fun j => nrow (bs j) ((lel t j).map iv)
theorem lel_app {t : List (List Int)} {r : List Int} {j : Nat} (h : j < t.length) : lel (t ++ [r]) j = lel t j := by
  unfold lel; simp only [List.getD_eq_getElem?_getD]; rw [List.getElem?_append_left h]
theorem lel_last {t : List (List Int)} {r : List Int} : lel (t ++ [r]) t.length = r := by
  unfold lel; simp only [List.getD_eq_getElem?_getD]; simp
/-- The rows that lie in blocks. -/
structure RowsN (n0 : Nat) (g : AH) (v : AV) (bs : Nat → Nat × Nat) (t : List (List Int)) : Prop where
  at_ : ∀ j, j < t.length → g.at_ (bs j) = some ⟨1, (lel t j).map iv⟩
  ge : ∀ j, j < t.length → n0 ≤ (bs j).1
  lt : ∀ j, j < t.length → (bs j).1 < g.clk
  ne : ∀ j, j < t.length → ∀ m, v ≠ .slc (bs j) 1 0 m
  inj : ∀ j k, j < t.length → k < t.length → bs j = bs k → j = k
theorem RowsN.add {n0 k0 d N nn : Nat} {g H G : AH} {v v' : AV} {bs : Nat → Nat × Nat} {t : List (List Int)} {row : List Int} {bb : Nat × Nat} {l : List (List AV)} (hA : AppA n0 k0 d H v 1 nn l v' G) (hR : RowsN n0 g v bs t) (hS : SlA n0 g v 1 (rowsN bs t)) (hH : ∀ b : Bid, b.1 < g.clk → H.at_ b = g.at_ b) (hbb : H.at_ bb = some ⟨1, row.map iv⟩) (hb1 : g.clk ≤ bb.1) (hbN : bb.1 < N) (hbd : bb ≠ (k0, d)) (hk0 : g.clk ≤ k0) (hn0 : n0 ≤ g.clk) : RowsN n0 (G.tick N) v' (fun j => if j = t.length then bb else bs j) (t ++ [row]) := by
  have hlen : (t ++ [row]).length = t.length + 1 := by simp
  have hnew : ∀ b' : Nat × Nat, (∀ m, v' = .slc b' 1 0 m → b' = (k0, d)) := fun b' m e => by
    rcases hA.new with e' | e'
    · rw [e'] at e; cases e
    · rw [e'] at e; injection e with e1; exact e1.symm
  refine ⟨fun j hj => ?_, fun j hj => ?_, fun j hj => ?_, fun j hj m e => ?_, fun j k hj hk e => ?_⟩
  · show G.at_ (if j = t.length then bb else bs j) = _
    by_cases q : j = t.length
    · rw [if_pos q, q, lel_last, hA.keep bb (fun m e => by have := (hS.lt e).2.1; omega) hbd]; exact hbb
    · have hj' : j < t.length := by omega
      have q2 := hR.lt j hj'
      rw [if_neg q, lel_app hj', hA.keep (bs j) (hR.ne j hj') (fun e => by rw [e] at q2; dsimp only at q2; omega), hH _ q2]
      exact hR.at_ j hj'
  · show _ ≤ (if j = t.length then bb else bs j).1
    by_cases q : j = t.length
    · rw [if_pos q]; omega
    · rw [if_neg q]; exact hR.ge j (by omega)
  · show (if j = t.length then bb else bs j).1 < N
    by_cases q : j = t.length
    · rw [if_pos q]; exact hbN
    · rw [if_neg q]; have := hR.lt j (by omega); omega
  · have q1 := hnew _ m e
    by_cases q : j = t.length
    · rw [if_pos q] at q1; exact hbd q1
    · rw [if_neg q] at q1; have := hR.lt j (by omega); rw [q1] at this; dsimp only at this; omega
  · have e : (if j = t.length then bb else bs j) = (if k = t.length then bb else bs k) := e
    by_cases q : j = t.length
    · by_cases q2 : k = t.length
      · omega
      · rw [if_pos q, if_neg q2] at e; have := hR.lt k (by omega); rw [← e] at this; omega
    · by_cases q2 : k = t.length
      · rw [if_neg q, if_pos q2] at e; have := hR.lt j (by omega); rw [e] at this; omega
      · rw [if_neg q, if_neg q2] at e; exact hR.inj j k (by omega) (by omega) e
theorem RowsN.tick {n0 : Nat} {g : AH} {v : AV} {bs : Nat → Nat × Nat} {t : List (List Int)} (hR : RowsN n0 g v bs t) {n : Nat} (hn : g.clk ≤ n) : RowsN n0 (g.tick n) v bs t :=
  ⟨hR.at_, hR.ge, fun j hj => Nat.lt_of_lt_of_le (hR.lt j hj) hn, hR.ne, hR.inj⟩
theorem VLe.lst {e : Nat} {es es' : List (List AV)} (hl : es'.length = es.length) (hr : ∀ c xs, VRss c es xs → VRss c es' xs) (hc : ∀ r ∈ es', r.length = e ∧ r.all AV.cell = true) : VLe (.lst e es) (.lst e es') := by
  intro c x h
  simp only [VR] at h ⊢
  obtain ⟨a, cap, vs, h1, h2, h3, h4, h5, h6⟩ := h
  refine ⟨a, cap, vs, by rw [hl]; exact h1, by rw [hl]; exact h2, fun ea => ?_, hc, h5, hr c vs h6⟩
  have := h3 ea
  subst this
  exact List.length_eq_zero_iff.1 hl
end Go.Proofs.Ythjbfdfhblloiaa

/- Contracts of functions that the claim reaches: what each call gives, told in our own logic. Conditions: those of each theorem. -/
set_option linter.all false
set_option linter.unusedSimpArgs false
set_option linter.unusedVariables false
namespace Go.Proofs.Ythjbfdfhblloiaa
open Go.Av
attribute [local irreducible] thenA blockA awp awpOps awpD awp1
set_option maxHeartbeats 8000000
set_option maxRecDepth 20000
theorem TwOk.lens {t : Tw} (hT : TwOk t) : t.lens := ⟨by have := hT.rn; omega, by have := hT.sn; omega, by have := hT.gn; omega, fun i hi => by have := (hT.g i hi).many; omega⟩
def T3 (a b : Tw) : List Tw := [a, b, b]
def C3 (a b : List Int) : List (List Int) := [a, b, b]
def K3 (p r : Int) : List Int := [p, r, p]
def noTw : Tw := ⟨[], [], [], 0⟩
theorem T3_len (a b : Tw) : (T3 a b).length = 3 := rfl
theorem C3_len (a b : List Int) : (C3 a b).length = 3 := rfl
theorem T3_get {a b : Tw} {i : Nat} (h : i < 3) : ((T3 a b).map Tw.cells).getD i [] = ((T3 a b).getD i noTw).cells := by
  match i, h with
  | 0, _ => rfl
  | 1, _ => rfl
  | 2, _ => rfl
theorem wayV_two (t : Tw) (c : List Int) (f g : Int) : ∃ (W : List Int) (e : Int), wayV t c f g = .tup [.lst 1 (W.map iv), .int .i64 e] ∧ W.length ≤ 1000000 := by
  unfold wayV
  by_cases h0 : cloE t c = 0
  · rw [if_neg (fun e => e h0)]
    by_cases h1 : 0 ≤ f ∧ f ≤ t.rooms.length - 1 ∧ 0 ≤ g ∧ g ≤ t.rooms.length - 1
    · rw [if_neg (fun e => e h1)]
      obtain ⟨hT, _⟩ := cloOk h0
      have hrn := hT.rn
      cases hd : dst t c g f with
      | none => exact ⟨[], 7, rfl, by decide⟩
      | some d =>
        have hl := dist_lt hT ⟨h1.2.2.1, by omega⟩ h1.1 ((dst_iff hT ⟨h1.2.2.1, by omega⟩ h1.1).1 hd)
        exact ⟨wayL t c g d f, 0, rfl, by rw [wayL_len]; omega⟩
    · rw [if_pos h1]; exact ⟨[], 7, rfl, by decide⟩
  · rw [if_pos h0]; exact ⟨[], _, rfl, by decide⟩
theorem hold2 (g : AH) : HOld h00 g := ⟨fun _ _ e => (by cases e), fun _ _ e => (by cases e), Nat.zero_le _⟩
theorem law4 (x : Tw) (cl : List Int) (frm to : Int) (l : List Int) (hx : x.small) (hcl : (cl.length : Int) ≤ 9223372036854775807) (hf : I64 frm) (ht : I64 to) (hl : (l.length : Int) ≤ 9223372036854775807) (h : AH) : ACalls Try.prog 4 [x.av, .lst 1 (cl.map iv), .int .i64 frm, .int .i64 to, .lst 1 (l.map iv)] h (fun v _ => v = .bool true) := by
  have k15 := c15
  by_cases h20 : cl.length ≤ 20
  case neg =>
    refine ACalls.of tab mixed Try.call4 Try.func4 rfl (fi := ⟨142, [12, 19], [5, 43, 47, 55, 63], none, [(6, [0, 0, 0, 7, 0, 0, 0, 112, 0, 0, 0, 1024, 3072, 7680, 0, 32512, 0, 0, 0, 262144, 786432, 1981952, 0, 8338944, 4079119, 20856575, 54460415, 134217727], [(0, true), (1, true), (2, true), (3, false), (4, false), (5, false), (6, false), (7, false), (8, false), (9, false), (10, false), (11, true), (12, false), (14, false), (16, false), (17, false), (18, false), (19, true), (20, false), (22, false), (13, false), (15, false), (21, false), (23, false), (24, false), (25, false), (26, false), (27, false)]), (10, [0, 0, 3, 7, 15, 0, 0, 96, 224, 511, 0, 2047, 4095], [(0, false), (1, false), (2, false), (3, true), (5, false), (6, false), (7, false), (8, true), (10, false), (4, false), (9, false), (11, false), (12, false)]), (11, [0, 0, 0, 0, 12, 28, 0, 0, 192, 448, 1023, 2047, 4095, 4095, 8191, 32767], [(0, true), (1, false), (2, false), (3, false), (4, false), (5, true), (6, false), (7, false), (8, false), (9, true), (10, false), (11, false), (12, false), (13, false), (14, false), (15, false)]), (12, [0, 0, 3, 7, 0, 0, 48, 112, 0, 0, 768, 1792, 0, 0, 12288, 28672, 65535, 131071, 262143, 262143, 524287, 2097151], [(0, false), (1, false), (2, false), (3, true), (4, false), (5, false), (6, false), (7, true), (8, false), (9, false), (10, false), (11, true), (12, false), (13, false), (14, false), (15, true), (16, false), (17, false), (18, false), (19, false), (20, false), (21, false)]), (13, [0, 0, 3, 7, 15, 15, 63, 127, 255, 511, 1023, 1023, 1023, 7167, 15359, 32767, 65535, 131071, 262143, 524287, 524287, 524287, 3670015, 7864319, 16777215, 33554431, 67108863], [(0, false), (1, false), (2, false), (3, false), (4, false), (5, false), (6, false), (7, false), (8, false), (9, false), (10, true), (11, false), (12, false), (13, false), (14, true), (15, false), (16, false), (17, false), (18, false), (19, false), (20, false), (21, false), (22, false), (23, true), (24, false), (25, false), (26, false)])]⟩) rfl rfl (Nat.le_of_ble_eq_true rfl) (by decide) ?_
    unfold startA
    repeat' (first | refine st_seq_reg rfl (by first | (simp only [go_sem, List.length_map]; rfl) | rfl) (by first | (simp only [go_sem, List.length_map]; rfl) | rfl) ?_ | refine st_op ?_ | refine st_det rfl (by simp (disch := omega) only [go_sem, wr_i64, if_yes, if_no, ↓reduceIte, Nat.reduceAdd, Nat.reduceMul, Nat.reduceEqDiff, Nat.reduceBEq, Nat.reduceLeDiff, List.length_map]; rfl) ?_ | (refine st_pure (by first | (simp (disch := omega) only [go_sem, List.length_map]; rfl) | rfl) rfl (c14 x 12 hx) (by first | (simp only [go_sem, List.length_map]; rfl) | rfl) (by intro n; first | (simp (disch := omega) only [go_sem]; rfl) | rfl) ?_; rintro v n ⟨r, rfl, hr⟩ hn) | (refine st_pureE (by first | (simp (disch := omega) only [go_sem, List.length_map]; rfl) | rfl) rfl (k15) (by first | (simp only [go_sem, List.length_map]; rfl) | rfl) (by intro n; first | (simp (disch := omega) only [go_sem]; rfl) | rfl) ?_; intro n hn) | refine st_gT rfl rfl rfl ?_ | refine st_gF rfl rfl rfl ?_ | (refine st_gS rfl rfl ?_ ?_ <;> intro hg <;> (try simp only [decide_eq_true_eq, decide_eq_false_iff_not, Bool.not_eq_true', Bool.not_eq_false'] at hg)) | refine st_condT rfl ?_ | (refine st_condS rfl ?_ ?_ <;> intro hg <;> (try simp only [decide_eq_true_eq, decide_eq_false_iff_not, Bool.not_eq_true', Bool.not_eq_false'] at hg)) | refine st_nil ?_ | refine st_tN ?_ | refine st_seq ?_ | refine st_skip ?_ | refine st_ret ?_ | refine st_tR ?_)
    all_goals try (exfalso; omega)
    all_goals
      simp (disch := omega) only [AEnd, Try.results4, aresK, fin, go_sem, ↓reduceIte, Nat.reduceEqDiff, Nat.reduceAdd, Nat.reduceLeDiff, if_yes, if_no, implies_true, true_and, and_true, List.reverse_cons, List.reverse_nil]
  refine ACalls.of tab mixed Try.call4 Try.func4 rfl (fi := ⟨142, [12, 19], [5, 43, 47, 55, 63], none, [(6, [0, 0, 0, 7, 0, 0, 0, 112, 0, 0, 0, 1024, 3072, 7680, 0, 32512, 0, 0, 0, 262144, 786432, 1981952, 0, 8338944, 4079119, 20856575, 54460415, 134217727], [(0, true), (1, true), (2, true), (3, false), (4, false), (5, false), (6, false), (7, false), (8, false), (9, false), (10, false), (11, true), (12, false), (14, false), (16, false), (17, false), (18, false), (19, true), (20, false), (22, false), (13, false), (15, false), (21, false), (23, false), (24, false), (25, false), (26, false), (27, false)]), (10, [0, 0, 3, 7, 15, 0, 0, 96, 224, 511, 0, 2047, 4095], [(0, false), (1, false), (2, false), (3, true), (5, false), (6, false), (7, false), (8, true), (10, false), (4, false), (9, false), (11, false), (12, false)]), (11, [0, 0, 0, 0, 12, 28, 0, 0, 192, 448, 1023, 2047, 4095, 4095, 8191, 32767], [(0, true), (1, false), (2, false), (3, false), (4, false), (5, true), (6, false), (7, false), (8, false), (9, true), (10, false), (11, false), (12, false), (13, false), (14, false), (15, false)]), (12, [0, 0, 3, 7, 0, 0, 48, 112, 0, 0, 768, 1792, 0, 0, 12288, 28672, 65535, 131071, 262143, 262143, 524287, 2097151], [(0, false), (1, false), (2, false), (3, true), (4, false), (5, false), (6, false), (7, true), (8, false), (9, false), (10, false), (11, true), (12, false), (13, false), (14, false), (15, true), (16, false), (17, false), (18, false), (19, false), (20, false), (21, false)]), (13, [0, 0, 3, 7, 15, 15, 63, 127, 255, 511, 1023, 1023, 1023, 7167, 15359, 32767, 65535, 131071, 262143, 524287, 524287, 524287, 3670015, 7864319, 16777215, 33554431, 67108863], [(0, false), (1, false), (2, false), (3, false), (4, false), (5, false), (6, false), (7, false), (8, false), (9, false), (10, true), (11, false), (12, false), (13, false), (14, true), (15, false), (16, false), (17, false), (18, false), (19, false), (20, false), (21, false), (22, false), (23, true), (24, false), (25, false), (26, false)])]⟩) rfl rfl (Nat.le_of_ble_eq_true rfl) (by decide) ?_
  unfold startA
  repeat' (first | refine st_seq_reg rfl (by first | (simp only [go_sem, List.length_map]; rfl) | rfl) (by first | (simp only [go_sem, List.length_map]; rfl) | rfl) ?_ | refine st_op ?_ | refine st_det rfl (by simp (disch := omega) only [go_sem, wr_i64, if_yes, if_no, ↓reduceIte, Nat.reduceAdd, Nat.reduceMul, Nat.reduceEqDiff, Nat.reduceBEq, Nat.reduceLeDiff, List.length_map]; rfl) ?_ | (refine st_pure (by first | (simp (disch := omega) only [go_sem, List.length_map]; rfl) | rfl) rfl (c14 x 12 hx) (by first | (simp only [go_sem, List.length_map]; rfl) | rfl) (by intro n; first | (simp (disch := omega) only [go_sem]; rfl) | rfl) ?_; rintro v n ⟨r, rfl, hr⟩ hn) | (refine st_pureE (by first | (simp (disch := omega) only [go_sem, List.length_map]; rfl) | rfl) rfl (k15) (by first | (simp only [go_sem, List.length_map]; rfl) | rfl) (by intro n; first | (simp (disch := omega) only [go_sem]; rfl) | rfl) ?_; intro n hn) | refine st_gT rfl rfl rfl ?_ | refine st_gF rfl rfl rfl ?_ | (refine st_gS rfl rfl ?_ ?_ <;> intro hg <;> (try simp only [decide_eq_true_eq, decide_eq_false_iff_not, Bool.not_eq_true', Bool.not_eq_false'] at hg)) | refine st_condT rfl ?_ | (refine st_condS rfl ?_ ?_ <;> intro hg <;> (try simp only [decide_eq_true_eq, decide_eq_false_iff_not, Bool.not_eq_true', Bool.not_eq_false'] at hg)) | refine st_nil ?_ | refine st_tN ?_ | refine st_seq ?_ | refine st_skip ?_ | refine st_ret ?_ | refine st_tR ?_)
  all_goals try (exfalso; omega)
  · simp (disch := omega) only [AEnd, Try.results4, aresK, fin, go_sem, ↓reduceIte, Nat.reduceEqDiff, Nat.reduceAdd, Nat.reduceLeDiff, if_yes, if_no, implies_true, true_and, and_true, List.reverse_cons, List.reverse_nil]
  have hV := hr (by assumption)
  repeat' (first | refine st_seq_reg rfl (by first | (simp only [go_sem, List.length_map]; rfl) | rfl) (by first | (simp only [go_sem, List.length_map]; rfl) | rfl) ?_ | refine st_op ?_ | refine st_det rfl (by simp (disch := omega) only [go_sem, wr_i64, if_yes, if_no, ↓reduceIte, Nat.reduceAdd, Nat.reduceMul, Nat.reduceEqDiff, Nat.reduceBEq, Nat.reduceLeDiff, List.length_map]; rfl) ?_ | refine st_loc rfl (by simp (disch := omega) only [go_sem, wr_i64, if_yes, if_no, ↓reduceIte, Nat.reduceAdd, Nat.reduceMul, Nat.reduceEqDiff, Nat.reduceBEq, Nat.reduceLeDiff, List.length_map]; rfl) ?_ | refine st_store (by simp (disch := omega) only [go_sem, wr_i64, if_yes, if_no, ↓reduceIte, Nat.reduceAdd, Nat.reduceMul, Nat.reduceEqDiff, Nat.reduceBEq, Nat.reduceLeDiff, List.length_map]; rfl) ?_ | (refine st_callf rfl rfl (c16 l hl _) ?_; rintro v h' ⟨b, x0, n, rfl, hb1, hb2, hu0, rfl⟩) | (refine st_drum (by first | (simp (disch := omega) only [go_sem, List.length_map]; rfl) | rfl) rfl (c17 b 8 12 1 (by decide) (by decide) (by decide)) (by first | (simp (disch := omega) only [go_sem, List.length_map]; rfl) | rfl) (by assumption) (by first | (simp only [go_sem, List.length_map]; rfl) | rfl) (by intro x' n; first | (simp (disch := omega) only [go_sem]; rfl) | rfl) ?_; rintro v x' n hu' ⟨t, rfl, hG⟩ hn) | refine st_nil ?_)
  have hT := hG.ok (by decide) (by decide) (by decide)
  have hr0 := hG.r0
  have hrn := hG.rn
  have hsn := hG.sn
  repeat' (first | refine st_seq_reg rfl (by first | (simp only [go_sem, List.length_map]; rfl) | rfl) (by first | (simp only [go_sem, List.length_map]; rfl) | rfl) ?_ | refine st_seq_draw rfl (by first | (simp only [go_sem, List.length_map]; rfl) | rfl) (by first | (simp only [go_sem, List.length_map]; rfl) | rfl) ?_ | refine st_op ?_ | refine st_det rfl (by simp (disch := omega) only [go_sem, wr_i64, if_yes, if_no, ↓reduceIte, Nat.reduceAdd, Nat.reduceMul, Nat.reduceEqDiff, Nat.reduceBEq, Nat.reduceLeDiff, List.length_map]; rfl) ?_ | refine st_dop rfl ?_ | (refine st_drum (by first | (simp (disch := omega) only [go_sem, List.length_map]; rfl) | rfl) rfl (c27 b t (by omega)) (by first | (simp (disch := omega) only [go_sem, List.length_map]; rfl) | rfl) (by assumption) (by first | (simp only [go_sem, List.length_map]; rfl) | rfl) (by intro x' n; first | (simp (disch := omega) only [go_sem]; rfl) | rfl) ?_; rintro v x' n hu' ⟨c, rfl, hC⟩ hn) | (refine st_drum (by first | (simp (disch := omega) only [go_sem, List.length_map]; rfl) | rfl) rfl (c18' b (t.rooms.length : Int) (by omega)) (by first | (simp (disch := omega) only [go_sem, List.length_map]; rfl) | rfl) (by assumption) (by first | (simp only [go_sem, List.length_map]; rfl) | rfl) (by intro x' n; first | (simp (disch := omega) only [go_sem]; rfl) | rfl) ?_; rintro v x' n hu' ⟨r1, rfl, hr1⟩ hn) | refine st_nil ?_ | refine st_dnil ?_ | refine st_seq ?_ | refine st_block ?_)
  all_goals try (exfalso; omega)
  rename_i ra hra hz
  have hI : ∀ v : Int, 0 ≤ v ∧ v < (t.rooms.length : Int) → I64 v := fun v hv => by unfold I64; omega
  refine st_loopH (α := Nat) tab mixed [] [] (by repeat (first | exact trivial | refine ⟨rfl, ?_⟩)) [] [] (by repeat (first | exact trivial | refine ⟨rfl, ?_⟩)) (fun i => [(18, .int .i64 (i : Nat)), (14, .lst 4 ((T3 x t).map Tw.cells)), (15, .lst 1 ((C3 cl c).map rowA)), (16, .lst 1 ((K3 frm ra).map iv)), (17, .lst 1 ((K3 to r1).map iv))]) [(11, _)] (fun _ => []) [] (fun _ => h00) (fun i => i ≤ 3) (fun i => 3 - i) (by decide) 0 (Nat.zero_le _) (by (try simp only [go_sem]); repeat' (first | exact trivial | refine And.intro ?_ ?_ | rfl | (simp (disch := omega) only [go_sem, if_yes, if_no, ↓reduceIte, Nat.reduceAdd, Nat.reduceMul, Nat.reduceEqDiff, Nat.reduceBEq, Nat.reduceLeDiff]; rfl) | (simp (disch := omega) only [go_sem, if_yes, if_no, ↓reduceIte, Nat.reduceAdd, Nat.reduceMul, Nat.reduceEqDiff, Nat.reduceBEq, Nat.reduceLeDiff]))) (by (try simp only [go_sem]); repeat' (first | exact trivial | refine And.intro ?_ ?_ | rfl | (simp (disch := omega) only [go_sem, if_yes, if_no, ↓reduceIte, Nat.reduceAdd, Nat.reduceMul, Nat.reduceEqDiff, Nat.reduceBEq, Nat.reduceLeDiff]; rfl) | (simp (disch := omega) only [go_sem, if_yes, if_no, ↓reduceIte, Nat.reduceAdd, Nat.reduceMul, Nat.reduceEqDiff, Nat.reduceBEq, Nat.reduceLeDiff]))) (hold2 _) ?_
  rintro i d i1 hd
  simp only [go_sem] at hd ⊢
  by_cases hi : i < 3
  case neg =>
    repeat' (first | refine st_seq_reg rfl (by first | (simp only [go_sem, List.length_map, T3_len]; rfl) | rfl) (by first | (simp only [go_sem, List.length_map, T3_len]; rfl) | rfl) ?_ | refine st_seq_draw rfl (by first | (simp only [go_sem, List.length_map, T3_len]; rfl) | rfl) (by first | (simp only [go_sem, List.length_map, T3_len]; rfl) | rfl) ?_ | refine st_op ?_ | refine st_det rfl (by simp (disch := omega) only [go_sem, wr_i64, if_yes, if_no, ↓reduceIte, Nat.reduceAdd, Nat.reduceMul, Nat.reduceEqDiff, Nat.reduceBEq, Nat.reduceLeDiff, List.length_map, T3_len]; rfl) ?_ | refine st_dop rfl ?_ | refine st_loc rfl (by simp (disch := omega) only [go_sem, wr_i64, if_yes, if_no, ↓reduceIte, Nat.reduceAdd, Nat.reduceMul, Nat.reduceEqDiff, Nat.reduceBEq, Nat.reduceLeDiff, List.length_map, T3_len]; rfl) ?_ | (refine st_pureE (by first | (simp (disch := omega) only [go_sem, List.length_map, T3_len]; rfl) | rfl) rfl (k15) (by first | (simp only [go_sem, List.length_map, T3_len]; rfl) | rfl) (by intro n; first | (simp (disch := omega) only [go_sem]; rfl) | rfl) ?_; intro n hn) | (refine st_condS rfl ?_ ?_ <;> intro hg <;> (try simp only [decide_eq_true_eq, decide_eq_false_iff_not, Bool.not_eq_true', Bool.not_eq_false'] at hg)) | refine st_nil ?_ | refine st_tN ?_ | refine st_seq ?_ | refine st_block ?_ | refine st_skip ?_ | refine st_exit ?_ | refine st_ret ?_ | refine st_tE ?_ | refine st_bH ?_)
    all_goals try (exfalso; omega)
    all_goals
      simp (disch := omega) only [AEnd, Try.results4, aresK, fin, go_sem, ↓reduceIte, Nat.reduceEqDiff, Nat.reduceAdd, Nat.reduceLeDiff, if_yes, if_no, implies_true, true_and, and_true, List.reverse_cons, List.reverse_nil]
  have hget := T3_get (a := x) (b := t) hi
  have hm : ((T3 x t).getD i noTw).lens := by
    match i, hi with
    | 0, _ => exact hV.lens
    | 1, _ => exact hT.lens
    | 2, _ => exact hT.lens
  have hk : (lel (C3 cl c) i).length ≤ 1000 := by
    have := hC.len
    match i, hi with
    | 0, _ => show cl.length ≤ 1000; omega
    | 1, _ => show c.length ≤ 1000; omega
    | 2, _ => show c.length ≤ 1000; omega
  have hcg := rowA_getD (l := C3 cl c) (i := i) hi
  have hfg := ivs_getD (l := K3 frm ra) (i := i) hi
  have htg := ivs_getD (l := K3 to r1) (i := i) hi
  generalize (T3 x t).getD i noTw = m at *
  generalize lel (C3 cl c) i = k at *
  generalize elt (K3 frm ra) i = f at *
  generalize elt (K3 to r1) i = g at *
  have hkf : (K3 frm ra).length = 3 := rfl
  have hkt : (K3 to r1).length = 3 := rfl
  have k22 := c22 m hm
  have k28 := c28 k (by omega)
  have k29 := c29 m k f g (by omega)
  have k30 := c30 m k f g (by omega)
  obtain ⟨W, e, hW, hWl⟩ := wayV_two m k f g
  rw [hW] at k29 k30
  have k31 := c31s W hWl
  have k31k := c31s k (by omega)
  have k25 := c25 m hm
  have hget' : ((T3 x t).map Tw.cells).getD i [] = [.lst 1 (m.rooms.map iv), .lst 2 (m.sts.map Sx.row), .lst 7 (m.gs.map Gp.row), .int .i64 m.steps] := hget
  repeat' (first | refine st_seq_reg rfl (by first | (simp only [go_sem, List.length_map, T3_len, C3_len, hkf, hkt, hget', hcg, hfg, htg, not_true_eq_false, decide_false, Bool.false_eq_true]; rfl) | rfl) (by first | (simp only [go_sem, List.length_map, T3_len, C3_len, hkf, hkt, hget', hcg, hfg, htg, not_true_eq_false, decide_false, Bool.false_eq_true]; rfl) | rfl) ?_ | refine st_reg rfl (by first | (simp only [go_sem, List.length_map, T3_len, C3_len, hkf, hkt, hget', hcg, hfg, htg, not_true_eq_false, decide_false, Bool.false_eq_true]; rfl) | rfl) (by first | (simp only [go_sem, List.length_map, T3_len, C3_len, hkf, hkt, hget', hcg, hfg, htg, not_true_eq_false, decide_false, Bool.false_eq_true]; rfl) | rfl) ?_ | refine st_seq_draw rfl (by first | (simp only [go_sem, List.length_map, T3_len, C3_len, hkf, hkt, hget', hcg, hfg, htg, not_true_eq_false, decide_false, Bool.false_eq_true]; rfl) | rfl) (by first | (simp only [go_sem, List.length_map, T3_len, C3_len, hkf, hkt, hget', hcg, hfg, htg, not_true_eq_false, decide_false, Bool.false_eq_true]; rfl) | rfl) ?_ | refine st_op ?_ | refine st_det rfl (by simp (disch := omega) only [go_sem, wr_i64, if_yes, if_no, ↓reduceIte, Nat.reduceAdd, Nat.reduceMul, Nat.reduceEqDiff, Nat.reduceBEq, Nat.reduceLeDiff, List.length_map, T3_len, C3_len, hkf, hkt, hget', hcg, hfg, htg, not_true_eq_false, decide_false, Bool.false_eq_true]; rfl) ?_ | refine st_dop rfl ?_ | refine st_loc rfl (by simp (disch := omega) only [go_sem, wr_i64, if_yes, if_no, ↓reduceIte, Nat.reduceAdd, Nat.reduceMul, Nat.reduceEqDiff, Nat.reduceBEq, Nat.reduceLeDiff, List.length_map, T3_len, C3_len, hkf, hkt, hget', hcg, hfg, htg, not_true_eq_false, decide_false, Bool.false_eq_true]; rfl) ?_ | refine st_store (by simp (disch := omega) only [go_sem, wr_i64, if_yes, if_no, ↓reduceIte, Nat.reduceAdd, Nat.reduceMul, Nat.reduceEqDiff, Nat.reduceBEq, Nat.reduceLeDiff, List.length_map, T3_len, C3_len, hkf, hkt, hget', hcg, hfg, htg, not_true_eq_false, decide_false, Bool.false_eq_true]; rfl) ?_ | (refine st_pureE (by first | (simp (disch := omega) only [go_sem, List.length_map, T3_len, C3_len, hkf, hkt, hget', hcg, hfg, htg, not_true_eq_false, decide_false, Bool.false_eq_true]; rfl) | rfl) rfl (k22) (by first | (simp only [go_sem, List.length_map, T3_len, C3_len, hkf, hkt, hget', hcg, hfg, htg, not_true_eq_false, decide_false, Bool.false_eq_true]; rfl) | rfl) (by intro n; first | (simp (disch := omega) only [go_sem]; rfl) | rfl) ?_; intro n hn) | (refine st_pureE (by first | (simp (disch := omega) only [go_sem, List.length_map, T3_len, C3_len, hkf, hkt, hget', hcg, hfg, htg, not_true_eq_false, decide_false, Bool.false_eq_true]; rfl) | rfl) rfl (k28) (by first | (simp only [go_sem, List.length_map, T3_len, C3_len, hkf, hkt, hget', hcg, hfg, htg, not_true_eq_false, decide_false, Bool.false_eq_true]; rfl) | rfl) (by intro n; first | (simp (disch := omega) only [go_sem]; rfl) | rfl) ?_; intro n hn) | (refine st_pureE (by first | (simp (disch := omega) only [go_sem, List.length_map, T3_len, C3_len, hkf, hkt, hget', hcg, hfg, htg, not_true_eq_false, decide_false, Bool.false_eq_true]; rfl) | rfl) rfl (k29) (by first | (simp only [go_sem, List.length_map, T3_len, C3_len, hkf, hkt, hget', hcg, hfg, htg, not_true_eq_false, decide_false, Bool.false_eq_true]; rfl) | rfl) (by intro n; first | (simp (disch := omega) only [go_sem]; rfl) | rfl) ?_; intro n hn) | (refine st_pureE (by first | (simp (disch := omega) only [go_sem, List.length_map, T3_len, C3_len, hkf, hkt, hget', hcg, hfg, htg, not_true_eq_false, decide_false, Bool.false_eq_true]; rfl) | rfl) rfl (k30) (by first | (simp only [go_sem, List.length_map, T3_len, C3_len, hkf, hkt, hget', hcg, hfg, htg, not_true_eq_false, decide_false, Bool.false_eq_true]; rfl) | rfl) (by intro n; first | (simp (disch := omega) only [go_sem]; rfl) | rfl) ?_; intro n hn) | (refine st_pureE (by first | (simp (disch := omega) only [go_sem, List.length_map, T3_len, C3_len, hkf, hkt, hget', hcg, hfg, htg, not_true_eq_false, decide_false, Bool.false_eq_true]; rfl) | rfl) rfl (k31) (by first | (simp only [go_sem, List.length_map, T3_len, C3_len, hkf, hkt, hget', hcg, hfg, htg, not_true_eq_false, decide_false, Bool.false_eq_true]; rfl) | rfl) (by intro n; first | (simp (disch := omega) only [go_sem]; rfl) | rfl) ?_; intro n hn) | (refine st_pureE (by first | (simp (disch := omega) only [go_sem, List.length_map, T3_len, C3_len, hkf, hkt, hget', hcg, hfg, htg, not_true_eq_false, decide_false, Bool.false_eq_true]; rfl) | rfl) rfl (k31k) (by first | (simp only [go_sem, List.length_map, T3_len, C3_len, hkf, hkt, hget', hcg, hfg, htg, not_true_eq_false, decide_false, Bool.false_eq_true]; rfl) | rfl) (by intro n; first | (simp (disch := omega) only [go_sem]; rfl) | rfl) ?_; intro n hn) | (refine st_pureE (by first | (simp (disch := omega) only [go_sem, List.length_map, T3_len, C3_len, hkf, hkt, hget', hcg, hfg, htg, not_true_eq_false, decide_false, Bool.false_eq_true]; rfl) | rfl) rfl (k25) (by first | (simp only [go_sem, List.length_map, T3_len, C3_len, hkf, hkt, hget', hcg, hfg, htg, not_true_eq_false, decide_false, Bool.false_eq_true]; rfl) | rfl) (by intro n; first | (simp (disch := omega) only [go_sem]; rfl) | rfl) ?_; intro n hn) | refine st_dgT rfl rfl rfl rfl ?_ | refine st_condF rfl ?_ | (refine st_condS rfl ?_ ?_ <;> intro hg <;> (try simp only [decide_eq_true_eq, decide_eq_false_iff_not, Bool.not_eq_true', Bool.not_eq_false'] at hg)) | refine st_nil ?_ | refine st_dnil ?_ | refine st_tN ?_ | refine st_seq ?_ | refine st_block ?_ | refine st_skip ?_ | refine st_exit ?_ | refine st_tE ?_ | refine st_bN ?_ | refine st_bH ?_)
  all_goals try (exfalso; omega)
  all_goals
    refine ⟨i + 1, (by show i + 1 ≤ 3; omega), by show 3 - (i + 1) < 3 - i; omega, (by repeat' (first | exact trivial | refine And.intro ?_ ?_ | rfl | (simp (disch := omega) only [go_sem, if_yes, if_no, ↓reduceIte, Nat.reduceAdd, Nat.reduceMul, Nat.reduceEqDiff, Nat.reduceBEq, Nat.reduceLeDiff]; rfl) | (simp (disch := omega) only [go_sem, if_yes, if_no, ↓reduceIte, Nat.reduceAdd, Nat.reduceMul, Nat.reduceEqDiff, Nat.reduceBEq, Nat.reduceLeDiff]))), (by repeat' (first | exact trivial | refine And.intro ?_ ?_ | rfl | (simp (disch := omega) only [go_sem, if_yes, if_no, ↓reduceIte, Nat.reduceAdd, Nat.reduceMul, Nat.reduceEqDiff, Nat.reduceBEq, Nat.reduceLeDiff]; rfl) | (simp (disch := omega) only [go_sem, if_yes, if_no, ↓reduceIte, Nat.reduceAdd, Nat.reduceMul, Nat.reduceEqDiff, Nat.reduceBEq, Nat.reduceLeDiff]))), rfl, hold2 _⟩
end Go.Proofs.Ythjbfdfhblloiaa
