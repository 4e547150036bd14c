/- Contracts of functions that the claim reaches: what each call gives, told in our own logic. Conditions: those of each theorem. -/
import Derived.Test.YtkjpceapflhmnaaF34
set_option linter.all false
set_option linter.unusedSimpArgs false
set_option linter.unusedVariables false
namespace Go.Proofs.Ytkjpceapflhmnaa
open Go.Av
attribute [local irreducible] thenA blockA awp awpOps awpD awp1
set_option maxHeartbeats 8000000
set_option maxRecDepth 20000
/-! ### FloatOf, with the heap named -/
def Fl.own0 (f : Fl) : AV := .agg [.int .i64 f.len, .int .i64 f.wid, .int .i64 f.front, .int .i64 f.rear, .int .i64 f.turn, .int .i64 f.kilos, .int .i64 f.mid, .int .i64 f.high, .nils]
theorem c15h (b : Nat × Nat) (N : Int) (hN : 0 ≤ N ∧ N ≤ 20) (h : AH) (x : Int) (hx : h.at_ b = dr x) (hu : isU64 x) : ACalls Try.prog 15 [.ptr b 0 0, .int .i64 N] h (fun v h' => ∃ (f : Fl) (x' : Int) (n : Nat), FlGood f N ∧ isU64 x' ∧ h.clk ≤ n ∧
    ((f.loads = [] ∧ v = f.own0 ∧ h' = (h.tick n).put b (dr x')) ∨ ∃ bb, v = f.own bb f.loads.length ∧ h.clk ≤ bb.1 ∧ bb.1 < n ∧ h' = ((h.tick n).put bb (some ⟨7, f.loads.map Ld.row⟩)).put b (dr x'))) := by
  refine ACalls.old Try.call15 fun hall => ?_
  have hold := hall b _ hx
  refine ACalls.of tab mixed Try.call15 Try.func15 rfl (fi := ⟨91, [4, 5, 7], [10, 18, 23, 62, 67, 87], none, []⟩) rfl rfl (Nat.le_of_ble_eq_true rfl) (by decide) ?_
  unfold startA
  repeat' (first
      | refine st_seq_reg rfl (by first | (simp only [go_sem, hx]; rfl) | rfl) (by first | (simp only [go_sem, hx]; rfl) | rfl) ?_
      | refine st_reg rfl (by first | (simp only [go_sem, hx]; rfl) | rfl) (by first | (simp only [go_sem, hx]; rfl) | rfl) ?_
      | refine st_seq_draw rfl (by first | (simp only [go_sem, hx]; rfl) | rfl) (by first | (simp only [go_sem, hx]; rfl) | rfl) ?_
      | refine st_draw rfl (by first | (simp only [go_sem, hx]; rfl) | rfl) (by first | (simp only [go_sem, hx]; rfl) | rfl) ?_
      | refine st_op ?_
      | refine st_det rfl (by simp (disch := omega) only [go_sem, wr_i64, if_yes, if_no, ↓reduceIte, Nat.reduceAdd, Nat.reduceMul, Nat.reduceEqDiff, Nat.reduceBEq, Nat.reduceLeDiff, hx]; rfl) ?_
      | refine st_dop rfl ?_
      | refine st_loc rfl (by simp (disch := omega) only [go_sem, wr_i64, if_yes, if_no, ↓reduceIte, Nat.reduceAdd, Nat.reduceMul, Nat.reduceEqDiff, Nat.reduceBEq, Nat.reduceLeDiff, hx]; rfl) ?_
      | refine st_heap rfl (by simp (disch := omega) only [go_sem, wr_i64, if_yes, if_no, ↓reduceIte, Nat.reduceAdd, Nat.reduceMul, Nat.reduceEqDiff, Nat.reduceBEq, Nat.reduceLeDiff, hx]; rfl) ?_
      | refine st_store (by simp (disch := omega) only [go_sem, wr_i64, if_yes, if_no, ↓reduceIte, Nat.reduceAdd, Nat.reduceMul, Nat.reduceEqDiff, Nat.reduceBEq, Nat.reduceLeDiff, hx]; rfl) ?_
      | refine st_append (by simp (disch := omega) only [go_sem, wr_i64, if_yes, if_no, ↓reduceIte, Nat.reduceAdd, Nat.reduceMul, Nat.reduceEqDiff, Nat.reduceBEq, Nat.reduceLeDiff, hx]; rfl) ?_
      | (refine st_drum (by first | (simp (disch := omega) only [go_sem, hx]; rfl) | rfl) rfl (c16b b _ _) (by first | (simp (disch := omega) only [go_sem, hx]; rfl) | rfl) (by assumption) (by first | (simp only [go_sem, hx]; rfl) | rfl) (by intro x' n; simp (disch := omega) only [go_sem]; rfl) ?_; rintro v x' n hu' ⟨r, rfl, hr⟩ hn)
      | (refine st_drum (by first | (simp (disch := omega) only [go_sem, hx]; rfl) | rfl) rfl (c17' b _ (by omega)) (by first | (simp (disch := omega) only [go_sem, hx]; rfl) | rfl) (by assumption) (by first | (simp only [go_sem, hx]; rfl) | rfl) (by intro x' n; simp (disch := omega) only [go_sem]; rfl) ?_; rintro v x' n hu' ⟨r, rfl, hr⟩ hn)
      | (refine st_drum (by first | (simp (disch := omega) only [go_sem, hx]; rfl) | rfl) rfl (c18' b _ _ (by omega) (by omega)) (by first | (simp (disch := omega) only [go_sem, hx]; rfl) | rfl) (by assumption) (by first | (simp only [go_sem, hx]; rfl) | rfl) (by intro x' n; simp (disch := omega) only [go_sem]; rfl) ?_; rintro v x' n hu' ⟨r, rfl, hr⟩ hn)
      | refine st_gT rfl rfl rfl ?_
      | refine st_gF rfl rfl rfl ?_
      | refine st_dgT rfl rfl rfl rfl ?_
      | refine st_dgF rfl rfl rfl ?_
      | (refine st_gS rfl rfl ?_ ?_ <;> intro hg <;> (try simp only [decide_eq_true_eq, decide_eq_false_iff_not, Bool.not_eq_true', Bool.not_eq_false'] at hg))
      | (refine st_dgS rfl rfl ?_ ?_ <;> intro hg <;> (try simp only [decide_eq_true_eq, decide_eq_false_iff_not, Bool.not_eq_true', Bool.not_eq_false'] at hg))
      | refine st_condT rfl ?_
      | refine st_condF rfl ?_
      | (refine st_condS rfl ?_ ?_ <;> intro hg <;> (try simp only [decide_eq_true_eq, decide_eq_false_iff_not, Bool.not_eq_true', Bool.not_eq_false'] at hg))
      | refine st_nil ?_
      | refine st_dnil ?_
      | refine st_tN ?_
      | refine st_seq ?_
      | refine st_block ?_
      | refine st_skip ?_
      | refine st_exit ?_
      | refine st_ret ?_
      | refine st_tE ?_
      | refine st_tR ?_
      | refine st_bN ?_
      | refine st_bR ?_
      | refine st_bH ?_
      | refine st_bM rfl ?_)
  rename_i x1 n1 u1 r1 h1 m1 x2 n2 u2 r2 h2 m2 x3 n3 u3 r3 h3 m3 x4 n4 u4 r4 h4 m4 x5 n5 u5 r5 h5 m5 x6 n6 u6 r6 h6 m6 x7 n7 u7 r7 h7 m7 x8 n8 u8 r8 h8 m8 x9 n9 u9 r9 h9 m9 x10 n10 u10 r10 h10 m10 x11 n11 u11 r11 h11 m11
  let f0 : Fl := ⟨r2, r3, r9, r10, r5, r7, r11, r8, []⟩
  refine st_loopH (α := FS) tab mixed [5] [_] (by repeat (first | exact trivial | refine ⟨rfl, ?_⟩)) [4] [_] (by repeat (first | exact trivial | refine ⟨rfl, ?_⟩)) (fun a => [(6, .int .i64 a.i)]) [(0, _), (4, _), (5, _)] (fun a => [[.int .i64 r2, .int .i64 r3, .int .i64 r9, .int .i64 r10, .int .i64 r5, .int .i64 r7, .int .i64 r11, .int .i64 r8, a.sl]]) [_] (FS.hp h b) (fun a => 0 ≤ a.i ∧ a.ls.length + a.i ≤ N ∧ n ≤ a.t ∧ isU64 a.x ∧ (∀ y ∈ a.ls, LdGood f0 y) ∧ (a.ls ≠ [] → h.clk ≤ a.bb.1 ∧ a.bb.1 < a.t)) (fun a => a.i.toNat) (by decide) ⟨r, x', n, (0, 0), []⟩ ⟨hr.1, by simp; omega, Nat.le_refl _, hu', by simp, by simp⟩ (by (try simp only [go_sem]); repeat' (first | exact trivial | refine And.intro ?_ ?_ | rfl | (simp (disch := omega) only [go_sem, if_yes, if_no, ↓reduceIte, Nat.reduceAdd, Nat.reduceMul, Nat.reduceEqDiff, Nat.reduceBEq, Nat.reduceLeDiff]; rfl) | (simp (disch := omega) only [go_sem, if_yes, if_no, ↓reduceIte, Nat.reduceAdd, Nat.reduceMul, Nat.reduceEqDiff, Nat.reduceBEq, Nat.reduceLeDiff]))) (by (try simp only [go_sem]); repeat' (first | exact trivial | refine And.intro ?_ ?_ | rfl | (simp (disch := omega) only [go_sem, if_yes, if_no, ↓reduceIte, Nat.reduceAdd, Nat.reduceMul, Nat.reduceEqDiff, Nat.reduceBEq, Nat.reduceLeDiff]; rfl) | (simp (disch := omega) only [go_sem, if_yes, if_no, ↓reduceIte, Nat.reduceAdd, Nat.reduceMul, Nat.reduceEqDiff, Nat.reduceBEq, Nat.reduceLeDiff]))) (HOld.refl _) ?_
  rintro a c ⟨i1, i2, i3, i4, i5, i6⟩ hc
  have hb0 : ∀ z t, h.clk ≤ z → ¬ ((z, t) : Nat × Nat) = b := fun z t hz e => by rw [← e] at hold; exact absurd hold (by show ¬ z < h.clk; omega)
  by_cases e : a.ls = []
  · have e1 : a.sl = .nils := if_pos e
    have e2 : a.hp h b = (h.tick a.t).put b (dr a.x) := if_pos e
    rw [e2] at hc
    simp only [go_sem] at hc
    simp only [e1, e2, go_sem]
    repeat' (first
        | refine st_seq_reg rfl (by first | (simp only [go_sem]; rfl) | rfl) (by first | (simp only [go_sem]; rfl) | rfl) ?_
        | refine st_reg rfl (by first | (simp only [go_sem]; rfl) | rfl) (by first | (simp only [go_sem]; rfl) | rfl) ?_
        | refine st_seq_draw rfl (by first | (simp only [go_sem]; rfl) | rfl) (by first | (simp only [go_sem]; rfl) | rfl) ?_
        | refine st_draw rfl (by first | (simp only [go_sem]; rfl) | rfl) (by first | (simp only [go_sem]; rfl) | rfl) ?_
        | refine st_op ?_
        | refine st_det rfl (by simp (disch := omega) only [go_sem, wr_i64, if_yes, if_no, ↓reduceIte, Nat.reduceAdd, Nat.reduceMul, Nat.reduceEqDiff, Nat.reduceBEq, Nat.reduceLeDiff]; rfl) ?_
        | refine st_dop rfl ?_
        | refine st_loc rfl (by simp (disch := omega) only [go_sem, wr_i64, if_yes, if_no, ↓reduceIte, Nat.reduceAdd, Nat.reduceMul, Nat.reduceEqDiff, Nat.reduceBEq, Nat.reduceLeDiff]; rfl) ?_
        | refine st_heap rfl (by simp (disch := omega) only [go_sem, wr_i64, if_yes, if_no, ↓reduceIte, Nat.reduceAdd, Nat.reduceMul, Nat.reduceEqDiff, Nat.reduceBEq, Nat.reduceLeDiff]; rfl) ?_
        | refine st_store (by simp (disch := omega) only [go_sem, wr_i64, if_yes, if_no, ↓reduceIte, Nat.reduceAdd, Nat.reduceMul, Nat.reduceEqDiff, Nat.reduceBEq, Nat.reduceLeDiff]; rfl) ?_
        | refine st_append (by simp (disch := omega) only [go_sem, wr_i64, if_yes, if_no, ↓reduceIte, Nat.reduceAdd, Nat.reduceMul, Nat.reduceEqDiff, Nat.reduceBEq, Nat.reduceLeDiff]; rfl) ?_
        | (refine st_drum (by first | (simp (disch := omega) only [go_sem]; rfl) | rfl) rfl (c16b b _ _) (by first | (simp (disch := omega) only [go_sem]; rfl) | rfl) (by assumption) (by first | (simp only [go_sem]; rfl) | rfl) (by intro x' n; simp (disch := omega) only [go_sem]; rfl) ?_; rintro v x' n hu' ⟨r, rfl, hr⟩ hn)
        | (refine st_drum (by first | (simp (disch := omega) only [go_sem]; rfl) | rfl) rfl (c17' b _ (by omega)) (by first | (simp (disch := omega) only [go_sem]; rfl) | rfl) (by assumption) (by first | (simp only [go_sem]; rfl) | rfl) (by intro x' n; simp (disch := omega) only [go_sem]; rfl) ?_; rintro v x' n hu' ⟨r, rfl, hr⟩ hn)
        | (refine st_drum (by first | (simp (disch := omega) only [go_sem]; rfl) | rfl) rfl (c18' b _ _ (by omega) (by omega)) (by first | (simp (disch := omega) only [go_sem]; rfl) | rfl) (by assumption) (by first | (simp only [go_sem]; rfl) | rfl) (by intro x' n; simp (disch := omega) only [go_sem]; rfl) ?_; rintro v x' n hu' ⟨r, rfl, hr⟩ hn)
        | (refine st_drum (by first | (simp (disch := omega) only [go_sem]; rfl) | rfl) rfl (c70 b _ _ (by omega) (by omega) (by omega)) (by first | (simp (disch := omega) only [go_sem]; rfl) | rfl) (by assumption) (by first | (simp only [go_sem]; rfl) | rfl) (by intro x' n; simp (disch := omega) only [go_sem]; rfl) ?_; rintro v x' n hu' ⟨r, q, rfl, hr⟩ hn)
        | refine st_gT rfl rfl rfl ?_
        | refine st_gF rfl rfl rfl ?_
        | refine st_dgT rfl rfl rfl rfl ?_
        | refine st_dgF rfl rfl rfl ?_
        | (refine st_gS rfl rfl ?_ ?_ <;> intro hg <;> (try simp only [decide_eq_true_eq, decide_eq_false_iff_not, Bool.not_eq_true', Bool.not_eq_false'] at hg))
        | (refine st_dgS rfl rfl ?_ ?_ <;> intro hg <;> (try simp only [decide_eq_true_eq, decide_eq_false_iff_not, Bool.not_eq_true', Bool.not_eq_false'] at hg))
        | refine st_condT rfl ?_
        | refine st_condF rfl ?_
        | (refine st_condS rfl ?_ ?_ <;> intro hg <;> (try simp only [decide_eq_true_eq, decide_eq_false_iff_not, Bool.not_eq_true', Bool.not_eq_false'] at hg))
        | refine st_nil ?_
        | refine st_dnil ?_
        | refine st_tN ?_
        | refine st_seq ?_
        | refine st_block ?_
        | refine st_skip ?_
        | refine st_exit ?_
        | refine st_ret ?_
        | refine st_tE ?_
        | refine st_tR ?_
        | refine st_bN ?_
        | refine st_bR ?_
        | refine st_bH ?_
        | refine st_bM rfl ?_)
    · rename_i xa na ua ra ha ma xb nb ub rb hb' mb xc nc uc rc qc hc' mc xd nd ud rd hd md xe ne ue re he me xf nf uf rf hf mf
      have hgood : ∀ y ∈ a.ls ++ [(⟨ra, rc, qc, re, q, rf, r⟩ : Ld)], LdGood f0 y := by
        intro y hy
        rcases List.mem_append.1 hy with hy | hy
        · exact i5 y hy
        · rw [List.mem_singleton.1 hy]
          exact ⟨⟨by show r9 ≤ ra; omega, by show ra ≤ r10; omega⟩, ⟨by show 0 ≤ rc; omega, by show rc ≤ qc; omega, by show qc ≤ 900; omega⟩, ⟨by show 0 ≤ re; omega, by show re ≤ q; omega, by show q ≤ 700; omega⟩, ⟨by show 1 ≤ rf; omega, by show rf ≤ 4; omega⟩, ⟨by show 0 ≤ r; omega, by show r < 3000; omega, by show rf = 2 ∨ rf = 3 ∨ r = 0; omega⟩⟩
      refine ⟨⟨a.i - 1, x', n + 1 + 1, (n, 88), a.ls ++ [⟨ra, rc, qc, re, q, rf, r⟩]⟩, ⟨by show 0 ≤ a.i - 1; omega, by simp; omega, by show _ ≤ n + 1 + 1; omega, hu', hgood, fun _ => ⟨by show h.clk ≤ n; omega, by show n < n + 1 + 1; omega⟩⟩, by show (a.i - 1).toNat < a.i.toNat; omega, (by (try (try simp only [e, nil_app, go_sem])); repeat' (first | exact trivial | refine And.intro ?_ ?_ | rfl | (simp (disch := omega) only [go_sem, if_yes, if_no, ↓reduceIte, Nat.reduceAdd, Nat.reduceMul, Nat.reduceEqDiff, Nat.reduceBEq, Nat.reduceLeDiff]; rfl) | (simp (disch := omega) only [go_sem, if_yes, if_no, ↓reduceIte, Nat.reduceAdd, Nat.reduceMul, Nat.reduceEqDiff, Nat.reduceBEq, Nat.reduceLeDiff]))), (by (try (try simp only [e, nil_app, go_sem])); repeat' (first | exact trivial | refine And.intro ?_ ?_ | rfl | (simp (disch := omega) only [go_sem, if_yes, if_no, ↓reduceIte, Nat.reduceAdd, Nat.reduceMul, Nat.reduceEqDiff, Nat.reduceBEq, Nat.reduceLeDiff]; rfl) | (simp (disch := omega) only [go_sem, if_yes, if_no, ↓reduceIte, Nat.reduceAdd, Nat.reduceMul, Nat.reduceEqDiff, Nat.reduceBEq, Nat.reduceLeDiff]))), rfl, by rw [FS.hp, if_neg (by simp)]; simp only [e]; exact hold1 (by omega) (hb0 _ _ (by omega))⟩
    · rename_i xa na ua ra ha ma xb nb ub rb hb' mb xc nc uc rc qc hc' mc xd nd ud rd hd md xe ne ue re he me xf nf uf rf hf mf hgA
      have hgood : ∀ y ∈ a.ls ++ [(⟨ra, rc, qc, re, q, rf, r⟩ : Ld)], LdGood f0 y := by
        intro y hy
        rcases List.mem_append.1 hy with hy | hy
        · exact i5 y hy
        · rw [List.mem_singleton.1 hy]
          exact ⟨⟨by show r9 ≤ ra; omega, by show ra ≤ r10; omega⟩, ⟨by show 0 ≤ rc; omega, by show rc ≤ qc; omega, by show qc ≤ 900; omega⟩, ⟨by show 0 ≤ re; omega, by show re ≤ q; omega, by show q ≤ 700; omega⟩, ⟨by show 1 ≤ rf; omega, by show rf ≤ 4; omega⟩, ⟨by show 0 ≤ r; omega, by show r < 3000; omega, by show rf = 2 ∨ rf = 3 ∨ r = 0; omega⟩⟩
      refine ⟨⟨a.i - 1, x', n + 1 + 1, (n, 88), a.ls ++ [⟨ra, rc, qc, re, q, rf, r⟩]⟩, ⟨by show 0 ≤ a.i - 1; omega, by simp; omega, by show _ ≤ n + 1 + 1; omega, hu', hgood, fun _ => ⟨by show h.clk ≤ n; omega, by show n < n + 1 + 1; omega⟩⟩, by show (a.i - 1).toNat < a.i.toNat; omega, (by (try (try simp only [e, nil_app, go_sem])); repeat' (first | exact trivial | refine And.intro ?_ ?_ | rfl | (simp (disch := omega) only [go_sem, if_yes, if_no, ↓reduceIte, Nat.reduceAdd, Nat.reduceMul, Nat.reduceEqDiff, Nat.reduceBEq, Nat.reduceLeDiff]; rfl) | (simp (disch := omega) only [go_sem, if_yes, if_no, ↓reduceIte, Nat.reduceAdd, Nat.reduceMul, Nat.reduceEqDiff, Nat.reduceBEq, Nat.reduceLeDiff]))), (by (try (try simp only [e, nil_app, go_sem])); repeat' (first | exact trivial | refine And.intro ?_ ?_ | rfl | (simp (disch := omega) only [go_sem, if_yes, if_no, ↓reduceIte, Nat.reduceAdd, Nat.reduceMul, Nat.reduceEqDiff, Nat.reduceBEq, Nat.reduceLeDiff]; rfl) | (simp (disch := omega) only [go_sem, if_yes, if_no, ↓reduceIte, Nat.reduceAdd, Nat.reduceMul, Nat.reduceEqDiff, Nat.reduceBEq, Nat.reduceLeDiff]))), rfl, by rw [FS.hp, if_neg (by simp)]; simp only [e]; exact hold1 (by omega) (hb0 _ _ (by omega))⟩
    · rename_i xa na ua ra ha ma xb nb ub rb hb' mb xc nc uc rc qc hc' mc xd nd ud rd hd md xe ne ue re he me hgA
      have hgood : ∀ y ∈ a.ls ++ [(⟨ra, rc, qc, re, q, r, 0⟩ : Ld)], LdGood f0 y := by
        intro y hy
        rcases List.mem_append.1 hy with hy | hy
        · exact i5 y hy
        · rw [List.mem_singleton.1 hy]
          exact ⟨⟨by show r9 ≤ ra; omega, by show ra ≤ r10; omega⟩, ⟨by show 0 ≤ rc; omega, by show rc ≤ qc; omega, by show qc ≤ 900; omega⟩, ⟨by show 0 ≤ re; omega, by show re ≤ q; omega, by show q ≤ 700; omega⟩, ⟨by show 1 ≤ r; omega, by show r ≤ 4; omega⟩, ⟨by show 0 ≤ 0; omega, by show 0 < 3000; omega, by show r = 2 ∨ r = 3 ∨ 0 = 0; omega⟩⟩
      refine ⟨⟨a.i - 1, x', n + 1 + 1 + 1, (n + 1, 88), a.ls ++ [⟨ra, rc, qc, re, q, r, 0⟩]⟩, ⟨by show 0 ≤ a.i - 1; omega, by simp; omega, by show _ ≤ n + 1 + 1 + 1; omega, hu', hgood, fun _ => ⟨by show h.clk ≤ n + 1; omega, by show n + 1 < n + 1 + 1 + 1; omega⟩⟩, by show (a.i - 1).toNat < a.i.toNat; omega, (by (try (try simp only [e, nil_app, go_sem])); repeat' (first | exact trivial | refine And.intro ?_ ?_ | rfl | (simp (disch := omega) only [go_sem, if_yes, if_no, ↓reduceIte, Nat.reduceAdd, Nat.reduceMul, Nat.reduceEqDiff, Nat.reduceBEq, Nat.reduceLeDiff]; rfl) | (simp (disch := omega) only [go_sem, if_yes, if_no, ↓reduceIte, Nat.reduceAdd, Nat.reduceMul, Nat.reduceEqDiff, Nat.reduceBEq, Nat.reduceLeDiff]))), (by (try (try simp only [e, nil_app, go_sem])); repeat' (first | exact trivial | refine And.intro ?_ ?_ | rfl | (simp (disch := omega) only [go_sem, if_yes, if_no, ↓reduceIte, Nat.reduceAdd, Nat.reduceMul, Nat.reduceEqDiff, Nat.reduceBEq, Nat.reduceLeDiff]; rfl) | (simp (disch := omega) only [go_sem, if_yes, if_no, ↓reduceIte, Nat.reduceAdd, Nat.reduceMul, Nat.reduceEqDiff, Nat.reduceBEq, Nat.reduceLeDiff]))), rfl, by rw [FS.hp, if_neg (by simp)]; simp only [e]; exact hold1 (by omega) (hb0 _ _ (by omega))⟩
    · simp (disch := omega) only [AEnd, Try.results15, aresK, fin, go_sem, ↓reduceIte, Nat.reduceEqDiff, Nat.reduceAdd, Nat.reduceLeDiff, if_yes, if_no, implies_true, true_and, and_true, List.reverse_cons, List.reverse_nil]
      refine ⟨⟨r2, r3, r9, r10, r5, r7, r11, r8, []⟩, a.x, _, ⟨⟨by show 2 ≤ r2; omega, by show r2 ≤ 1200; omega⟩, ⟨by show 1 ≤ r3; omega, by show r3 ≤ 400; omega⟩, ⟨by show 0 ≤ r9; omega, by show r9 < r10; omega, by show r10 ≤ r2; omega⟩, ⟨by show 0 ≤ r5; omega, by show r5 < 1500; omega⟩, ⟨by show 0 ≤ r7; omega, by show r7 < 5000; omega⟩, ⟨by show 0 ≤ r11; omega, by show r11 ≤ r2; omega⟩, ⟨by show 0 ≤ r8; omega, by show r8 < 500; omega⟩, by simp; omega, fun y hy => by cases hy⟩, i4, ?_, .inl ⟨rfl, rfl, rfl⟩⟩
      show h.clk ≤ _
      omega
  · have e1 : a.sl = .slc a.bb 7 0 a.ls.length := if_neg e
    have e2 : a.hp h b = ((h.tick a.t).put a.bb (some ⟨7, a.ls.map Ld.row⟩)).put b (dr a.x) := if_neg e
    have e6 := i6 e
    have hbb : ¬ a.bb = b := fun e' => by rw [e'] at e6; omega
    have hbn : h.at_ a.bb = none := by
      cases e' : h.at_ a.bb with
      | none => rfl
      | some k => exact absurd (hall _ _ e') (by omega)
    rw [e2] at hc
    simp only [go_sem] at hc
    simp only [e1, e2, go_sem]
    repeat' (first
        | refine st_seq_reg rfl (by first | (simp only [go_sem, hbb, big, List.length_map]; rfl) | rfl) (by first | (simp only [go_sem, hbb, big, List.length_map]; rfl) | rfl) ?_
        | refine st_reg rfl (by first | (simp only [go_sem, hbb, big, List.length_map]; rfl) | rfl) (by first | (simp only [go_sem, hbb, big, List.length_map]; rfl) | rfl) ?_
        | refine st_seq_draw rfl (by first | (simp only [go_sem, hbb, big, List.length_map]; rfl) | rfl) (by first | (simp only [go_sem, hbb, big, List.length_map]; rfl) | rfl) ?_
        | refine st_draw rfl (by first | (simp only [go_sem, hbb, big, List.length_map]; rfl) | rfl) (by first | (simp only [go_sem, hbb, big, List.length_map]; rfl) | rfl) ?_
        | refine st_op ?_
        | refine st_det rfl (by simp (disch := omega) only [go_sem, wr_i64, if_yes, if_no, ↓reduceIte, Nat.reduceAdd, Nat.reduceMul, Nat.reduceEqDiff, Nat.reduceBEq, Nat.reduceLeDiff, hbb, big, List.length_map]; rfl) ?_
        | refine st_dop rfl ?_
        | refine st_loc rfl (by simp (disch := omega) only [go_sem, wr_i64, if_yes, if_no, ↓reduceIte, Nat.reduceAdd, Nat.reduceMul, Nat.reduceEqDiff, Nat.reduceBEq, Nat.reduceLeDiff, hbb, big, List.length_map]; rfl) ?_
        | refine st_heap rfl (by simp (disch := omega) only [go_sem, wr_i64, if_yes, if_no, ↓reduceIte, Nat.reduceAdd, Nat.reduceMul, Nat.reduceEqDiff, Nat.reduceBEq, Nat.reduceLeDiff, hbb, big, List.length_map]; rfl) ?_
        | refine st_store (by simp (disch := omega) only [go_sem, wr_i64, if_yes, if_no, ↓reduceIte, Nat.reduceAdd, Nat.reduceMul, Nat.reduceEqDiff, Nat.reduceBEq, Nat.reduceLeDiff, hbb, big, List.length_map]; rfl) ?_
        | refine st_append (by simp (disch := omega) only [go_sem, wr_i64, if_yes, if_no, ↓reduceIte, Nat.reduceAdd, Nat.reduceMul, Nat.reduceEqDiff, Nat.reduceBEq, Nat.reduceLeDiff, hbb, big, List.length_map]; rfl) ?_
        | (refine st_drum (by first | (simp (disch := omega) only [go_sem, hbb, big, List.length_map]; rfl) | rfl) rfl (c16b b _ _) (by first | (simp (disch := omega) only [go_sem, hbb, big, List.length_map]; rfl) | rfl) (by assumption) (by first | (simp only [go_sem, hbb, big, List.length_map]; rfl) | rfl) (by intro x' n; simp (disch := omega) only [go_sem]; rfl) ?_; rintro v x' n hu' ⟨r, rfl, hr⟩ hn)
        | (refine st_drum (by first | (simp (disch := omega) only [go_sem, hbb, big, List.length_map]; rfl) | rfl) rfl (c17' b _ (by omega)) (by first | (simp (disch := omega) only [go_sem, hbb, big, List.length_map]; rfl) | rfl) (by assumption) (by first | (simp only [go_sem, hbb, big, List.length_map]; rfl) | rfl) (by intro x' n; simp (disch := omega) only [go_sem]; rfl) ?_; rintro v x' n hu' ⟨r, rfl, hr⟩ hn)
        | (refine st_drum (by first | (simp (disch := omega) only [go_sem, hbb, big, List.length_map]; rfl) | rfl) rfl (c18' b _ _ (by omega) (by omega)) (by first | (simp (disch := omega) only [go_sem, hbb, big, List.length_map]; rfl) | rfl) (by assumption) (by first | (simp only [go_sem, hbb, big, List.length_map]; rfl) | rfl) (by intro x' n; simp (disch := omega) only [go_sem]; rfl) ?_; rintro v x' n hu' ⟨r, rfl, hr⟩ hn)
        | (refine st_drum (by first | (simp (disch := omega) only [go_sem, hbb, big, List.length_map]; rfl) | rfl) rfl (c70 b _ _ (by omega) (by omega) (by omega)) (by first | (simp (disch := omega) only [go_sem, hbb, big, List.length_map]; rfl) | rfl) (by assumption) (by first | (simp only [go_sem, hbb, big, List.length_map]; rfl) | rfl) (by intro x' n; simp (disch := omega) only [go_sem]; rfl) ?_; rintro v x' n hu' ⟨r, q, rfl, hr⟩ hn)
        | refine st_gT rfl rfl rfl ?_
        | refine st_gF rfl rfl rfl ?_
        | refine st_dgT rfl rfl rfl rfl ?_
        | refine st_dgF rfl rfl rfl ?_
        | (refine st_gS rfl rfl ?_ ?_ <;> intro hg <;> (try simp only [decide_eq_true_eq, decide_eq_false_iff_not, Bool.not_eq_true', Bool.not_eq_false'] at hg))
        | (refine st_dgS rfl rfl ?_ ?_ <;> intro hg <;> (try simp only [decide_eq_true_eq, decide_eq_false_iff_not, Bool.not_eq_true', Bool.not_eq_false'] at hg))
        | refine st_condT rfl ?_
        | refine st_condF rfl ?_
        | (refine st_condS rfl ?_ ?_ <;> intro hg <;> (try simp only [decide_eq_true_eq, decide_eq_false_iff_not, Bool.not_eq_true', Bool.not_eq_false'] at hg))
        | refine st_nil ?_
        | refine st_dnil ?_
        | refine st_tN ?_
        | refine st_seq ?_
        | refine st_block ?_
        | refine st_skip ?_
        | refine st_exit ?_
        | refine st_ret ?_
        | refine st_tE ?_
        | refine st_tR ?_
        | refine st_bN ?_
        | refine st_bR ?_
        | refine st_bH ?_
        | refine st_bM rfl ?_)
    · rename_i xa na ua ra ha ma xb nb ub rb hb' mb xc nc uc rc qc hc' mc xd nd ud rd hd md xe ne ue re he me xf nf uf rf hf mf
      have hgood : ∀ y ∈ a.ls ++ [(⟨ra, rc, qc, re, q, rf, r⟩ : Ld)], LdGood f0 y := by
        intro y hy
        rcases List.mem_append.1 hy with hy | hy
        · exact i5 y hy
        · rw [List.mem_singleton.1 hy]
          exact ⟨⟨by show r9 ≤ ra; omega, by show ra ≤ r10; omega⟩, ⟨by show 0 ≤ rc; omega, by show rc ≤ qc; omega, by show qc ≤ 900; omega⟩, ⟨by show 0 ≤ re; omega, by show re ≤ q; omega, by show q ≤ 700; omega⟩, ⟨by show 1 ≤ rf; omega, by show rf ≤ 4; omega⟩, ⟨by show 0 ≤ r; omega, by show r < 3000; omega, by show rf = 2 ∨ rf = 3 ∨ r = 0; omega⟩⟩
      refine ⟨⟨a.i - 1, x', n + 1 + 1, (n, 88), a.ls ++ [⟨ra, rc, qc, re, q, rf, r⟩]⟩, ⟨by show 0 ≤ a.i - 1; omega, by simp; omega, by show _ ≤ n + 1 + 1; omega, hu', hgood, fun _ => ⟨by show h.clk ≤ n; omega, by show n < n + 1 + 1; omega⟩⟩, by show (a.i - 1).toNat < a.i.toNat; omega, (by (try (try simp only [go_sem])); repeat' (first | exact trivial | refine And.intro ?_ ?_ | rfl | (simp (disch := omega) only [go_sem, if_yes, if_no, ↓reduceIte, Nat.reduceAdd, Nat.reduceMul, Nat.reduceEqDiff, Nat.reduceBEq, Nat.reduceLeDiff]; rfl) | (simp (disch := omega) only [go_sem, if_yes, if_no, ↓reduceIte, Nat.reduceAdd, Nat.reduceMul, Nat.reduceEqDiff, Nat.reduceBEq, Nat.reduceLeDiff]))), (by (try (try simp only [go_sem])); repeat' (first | exact trivial | refine And.intro ?_ ?_ | rfl | (simp (disch := omega) only [go_sem, if_yes, if_no, ↓reduceIte, Nat.reduceAdd, Nat.reduceMul, Nat.reduceEqDiff, Nat.reduceBEq, Nat.reduceLeDiff]; rfl) | (simp (disch := omega) only [go_sem, if_yes, if_no, ↓reduceIte, Nat.reduceAdd, Nat.reduceMul, Nat.reduceEqDiff, Nat.reduceBEq, Nat.reduceLeDiff]))), rfl, by rw [FS.hp, if_neg (by simp)]; exact hold2 (Nat.le_refl _) (by rw [List.map_append, List.take_of_length_le (by simp)]; rfl) (hb0 _ _ (by omega)) hbn hbb⟩
    · rename_i xa na ua ra ha ma xb nb ub rb hb' mb xc nc uc rc qc hc' mc xd nd ud rd hd md xe ne ue re he me xf nf uf rf hf mf hgA
      have hgood : ∀ y ∈ a.ls ++ [(⟨ra, rc, qc, re, q, rf, r⟩ : Ld)], LdGood f0 y := by
        intro y hy
        rcases List.mem_append.1 hy with hy | hy
        · exact i5 y hy
        · rw [List.mem_singleton.1 hy]
          exact ⟨⟨by show r9 ≤ ra; omega, by show ra ≤ r10; omega⟩, ⟨by show 0 ≤ rc; omega, by show rc ≤ qc; omega, by show qc ≤ 900; omega⟩, ⟨by show 0 ≤ re; omega, by show re ≤ q; omega, by show q ≤ 700; omega⟩, ⟨by show 1 ≤ rf; omega, by show rf ≤ 4; omega⟩, ⟨by show 0 ≤ r; omega, by show r < 3000; omega, by show rf = 2 ∨ rf = 3 ∨ r = 0; omega⟩⟩
      refine ⟨⟨a.i - 1, x', n + 1 + 1, (n, 88), a.ls ++ [⟨ra, rc, qc, re, q, rf, r⟩]⟩, ⟨by show 0 ≤ a.i - 1; omega, by simp; omega, by show _ ≤ n + 1 + 1; omega, hu', hgood, fun _ => ⟨by show h.clk ≤ n; omega, by show n < n + 1 + 1; omega⟩⟩, by show (a.i - 1).toNat < a.i.toNat; omega, (by (try (try simp only [go_sem])); repeat' (first | exact trivial | refine And.intro ?_ ?_ | rfl | (simp (disch := omega) only [go_sem, if_yes, if_no, ↓reduceIte, Nat.reduceAdd, Nat.reduceMul, Nat.reduceEqDiff, Nat.reduceBEq, Nat.reduceLeDiff]; rfl) | (simp (disch := omega) only [go_sem, if_yes, if_no, ↓reduceIte, Nat.reduceAdd, Nat.reduceMul, Nat.reduceEqDiff, Nat.reduceBEq, Nat.reduceLeDiff]))), (by (try (try simp only [go_sem])); repeat' (first | exact trivial | refine And.intro ?_ ?_ | rfl | (simp (disch := omega) only [go_sem, if_yes, if_no, ↓reduceIte, Nat.reduceAdd, Nat.reduceMul, Nat.reduceEqDiff, Nat.reduceBEq, Nat.reduceLeDiff]; rfl) | (simp (disch := omega) only [go_sem, if_yes, if_no, ↓reduceIte, Nat.reduceAdd, Nat.reduceMul, Nat.reduceEqDiff, Nat.reduceBEq, Nat.reduceLeDiff]))), rfl, by rw [FS.hp, if_neg (by simp)]; exact hold2 (Nat.le_refl _) (by rw [List.map_append, List.take_of_length_le (by simp)]; rfl) (hb0 _ _ (by omega)) hbn hbb⟩
    · rename_i xa na ua ra ha ma xb nb ub rb hb' mb xc nc uc rc qc hc' mc xd nd ud rd hd md xe ne ue re he me hgA
      have hgood : ∀ y ∈ a.ls ++ [(⟨ra, rc, qc, re, q, r, 0⟩ : Ld)], LdGood f0 y := by
        intro y hy
        rcases List.mem_append.1 hy with hy | hy
        · exact i5 y hy
        · rw [List.mem_singleton.1 hy]
          exact ⟨⟨by show r9 ≤ ra; omega, by show ra ≤ r10; omega⟩, ⟨by show 0 ≤ rc; omega, by show rc ≤ qc; omega, by show qc ≤ 900; omega⟩, ⟨by show 0 ≤ re; omega, by show re ≤ q; omega, by show q ≤ 700; omega⟩, ⟨by show 1 ≤ r; omega, by show r ≤ 4; omega⟩, ⟨by show 0 ≤ 0; omega, by show 0 < 3000; omega, by show r = 2 ∨ r = 3 ∨ 0 = 0; omega⟩⟩
      refine ⟨⟨a.i - 1, x', n + 1 + 1 + 1, (n + 1, 88), a.ls ++ [⟨ra, rc, qc, re, q, r, 0⟩]⟩, ⟨by show 0 ≤ a.i - 1; omega, by simp; omega, by show _ ≤ n + 1 + 1 + 1; omega, hu', hgood, fun _ => ⟨by show h.clk ≤ n + 1; omega, by show n + 1 < n + 1 + 1 + 1; omega⟩⟩, by show (a.i - 1).toNat < a.i.toNat; omega, (by (try (try simp only [go_sem])); repeat' (first | exact trivial | refine And.intro ?_ ?_ | rfl | (simp (disch := omega) only [go_sem, if_yes, if_no, ↓reduceIte, Nat.reduceAdd, Nat.reduceMul, Nat.reduceEqDiff, Nat.reduceBEq, Nat.reduceLeDiff]; rfl) | (simp (disch := omega) only [go_sem, if_yes, if_no, ↓reduceIte, Nat.reduceAdd, Nat.reduceMul, Nat.reduceEqDiff, Nat.reduceBEq, Nat.reduceLeDiff]))), (by (try (try simp only [go_sem])); repeat' (first | exact trivial | refine And.intro ?_ ?_ | rfl | (simp (disch := omega) only [go_sem, if_yes, if_no, ↓reduceIte, Nat.reduceAdd, Nat.reduceMul, Nat.reduceEqDiff, Nat.reduceBEq, Nat.reduceLeDiff]; rfl) | (simp (disch := omega) only [go_sem, if_yes, if_no, ↓reduceIte, Nat.reduceAdd, Nat.reduceMul, Nat.reduceEqDiff, Nat.reduceBEq, Nat.reduceLeDiff]))), rfl, by rw [FS.hp, if_neg (by simp)]; exact hold2 (Nat.le_refl _) (by rw [List.map_append, List.take_of_length_le (by simp)]; rfl) (hb0 _ _ (by omega)) hbn hbb⟩
    · simp (disch := omega) only [AEnd, Try.results15, aresK, fin, go_sem, ↓reduceIte, Nat.reduceEqDiff, Nat.reduceAdd, Nat.reduceLeDiff, if_yes, if_no, implies_true, true_and, and_true, List.reverse_cons, List.reverse_nil]
      refine ⟨⟨r2, r3, r9, r10, r5, r7, r11, r8, a.ls⟩, a.x, _, ⟨⟨by show 2 ≤ r2; omega, by show r2 ≤ 1200; omega⟩, ⟨by show 1 ≤ r3; omega, by show r3 ≤ 400; omega⟩, ⟨by show 0 ≤ r9; omega, by show r9 < r10; omega, by show r10 ≤ r2; omega⟩, ⟨by show 0 ≤ r5; omega, by show r5 < 1500; omega⟩, ⟨by show 0 ≤ r7; omega, by show r7 < 5000; omega⟩, ⟨by show 0 ≤ r11; omega, by show r11 ≤ r2; omega⟩, ⟨by show 0 ≤ r8; omega, by show r8 < 500; omega⟩, by show (a.ls.length : Int) ≤ N; omega, fun y hy => ⟨(i5 y hy).at_, (i5 y hy).kilos, (i5 y hy).top, (i5 y hy).kind, (i5 y hy).watts⟩⟩, i4, ?_, .inr ⟨a.bb, rfl, e6.1, ?_, rfl⟩⟩
      · show h.clk ≤ _
        omega
      · show a.bb.1 < _
        omega
end Go.Proofs.Ytkjpceapflhmnaa
