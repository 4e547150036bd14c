/- Contracts of functions that the claim reaches: what each call gives, told in our own logic. Conditions: those of each theorem. -/
import Derived.Test.YthjbfdfhblloiaaW6a
import Derived.Test.YthjbfdfhblloiaaQ24
import Derived.Test.YthjbfdfhblloiaaBaseD
import Derived.Test.YthjbfdfhblloiaaQ17
import Derived.Test.YthjbfdfhblloiaaQ3
import Derived.Test.YthjbfdfhblloiaaQ31
import Derived.Test.YthjbfdfhblloiaaW8a
set_option linter.all false
set_option linter.unusedSimpArgs false
set_option linter.unusedVariables false
namespace Go.Proofs.Ythjbfdfhblloiaa
open Go.Av
attribute [local irreducible] thenA blockA awp awpOps awpD awp1
set_option maxHeartbeats 8000000
set_option maxRecDepth 20000
/-! ### What squares hold -/
structure Cm where
  at_ : Int
  many : Int
def Cm.row (x : Cm) : List AV := [.int .i64 x.at_, .int .i64 x.many]
@[go_sem] theorem Cm.row_eq (x : Cm) : x.row = [.int .i64 x.at_, .int .i64 x.many] := rfl
def cm (l : List Cm) (i : Nat) : Cm := l.getD i ⟨0, 0⟩
@[go_sem] theorem cmrow_getD {l : List Cm} {i : Nat} (h : i < l.length) : (l.map Cm.row).getD i [] = (cm l i).row := by
  simp [List.getD_eq_getElem?_getD, h, cm]
def hdF (t : Tw) (s : Nat → Int) (l : List Cm) (step q : Int) (i : Nat) : Int := if plc t s (gp t.gs i) (cm l i).at_ step = q then (cm l i).many else 0
theorem wayN_lt {t : Tw} (hT : TwOk t) {g : Gp} (hG : GpOk t g) : ∀ i, i ≤ g.path.length → wayN t g.path g.first i < t.rooms.length
  | 0, _ => hG.first.2
  | i + 1, hi => by
    have a := hG.st i (by omega)
    exact oth_bd hT (i := (elt g.path i).toNat) (by omega) (hG.way (i + 1) hi)
theorem wlk_lt {t : Tw} (hT : TwOk t) {g : Gp} (hG : GpOk t g) (f : Nat → Int) : ∀ (n i k : Nat), i + n = g.path.length → wlk t f (g.path.drop i) k (wayN t g.path g.first i) < t.rooms.length
  | 0, i, k, h => by
    have hw := wayN_lt hT hG i (by omega)
    have hr := hT.r0
    rw [List.drop_eq_nil_of_le (by omega)]
    show (if 0 < k then (-1 : Int) else _) < _
    split <;> omega
  | n + 1, i, 0, h => by
    have hw := wayN_lt hT hG i (by omega)
    rw [drop_getD 0 (by omega : i < g.path.length)]; exact hw
  | n + 1, i, k + 1, h => by
    have hw := wayN_lt hT hG i (by omega)
    have hr := hT.r0
    have ih := wlk_lt hT hG f n (i + 1) k (by omega)
    rw [drop_getD 0 (by omega : i < g.path.length)]
    show (if f (elt g.path i).toNat = 0 then (-2 : Int) else if f (elt g.path i).toNat = 2 then wayN t g.path g.first i else wlk t f (g.path.drop (i + 1)) k (oth (sx t.sts (elt g.path i).toNat) (wayN t g.path g.first i))) < _
    split
    · omega
    · split
      · exact hw
      · exact ih
theorem plc_lt {t : Tw} (hT : TwOk t) {g : Gp} (hG : GpOk t g) (f : Nat → Int) (came step : Int) : plc t f g came step < t.rooms.length := by
  have hr := hT.r0
  unfold plc
  split
  · omega
  · exact wlk_lt hT hG f g.path.length 0 _ (by omega)
theorem c35 (t : Tw) (c : List Int) (l : List Cm) (step : Int) (hT : TwOk t) (hl : l.length ≤ t.gs.length) (hcl : c.length ≤ 1000000) (hb : ∀ i, i < c.length → 0 ≤ elt c i ∧ elt c i < t.sts.length) (hs : 0 ≤ step ∧ step ≤ 96) (hla : ∀ i, i < l.length → 0 ≤ (cm l i).at_ ∧ (cm l i).at_ ≤ 96 ∧ 0 ≤ (cm l i).many ∧ (cm l i).many ≤ 1000000) : Pure Try.prog 35 [t.av, .lst 1 (c.map iv), .lst 2 (l.map Cm.row), .int .i64 step] (fun v => v = .lst 1 (nl t.rooms.length fun q => sumF (hdF t (cls c) l step (q : Nat)) l.length)) := by
  have hrn := hT.rn
  have hgn := hT.gn
  have ht0 : t.av = .agg t.cells := rfl
  refine Pure.give Try.call35 fun h hall => ?_
  refine ACalls.of tab mixed Try.call35 Try.func35 rfl (fi := ⟨48, [], [4], none, [(5, [0, 0, 0, 0, 0, 24, 56, 120, 0, 511, 1023], [(0, true), (1, false), (2, false), (3, false), (4, false), (5, false), (6, false), (7, true), (8, false), (9, false), (10, false)]), (7, [0, 0, 0, 0, 12, 28, 0, 0, 192, 448, 960, 2044, 4095, 8191], [(0, false), (1, false), (2, false), (3, false), (4, false), (5, false), (6, false), (7, false), (8, false), (9, false), (10, true), (11, false), (12, false), (13, true)])]⟩) rfl rfl (Nat.le_of_ble_eq_true rfl) (by decide) ?_
  unfold startA
  simp only [go_sem]
  repeat' (first | refine st_seq_reg rfl (by first | (simp only [go_sem, List.length_map, nl_rep, nl_len, Nat.zero_add]; rfl) | rfl) (by first | (simp only [go_sem, List.length_map, nl_rep, nl_len, Nat.zero_add]; rfl) | rfl) ?_ | refine st_op ?_ | refine st_det rfl (by simp (disch := omega) only [go_sem, wr_i64, if_yes, if_no, ↓reduceIte, Nat.reduceAdd, Nat.reduceMul, Nat.reduceEqDiff, Nat.reduceBEq, Nat.reduceLeDiff, List.length_map, nl_rep, nl_len, Nat.zero_add]; rfl) ?_ | refine st_heap rfl (by simp (disch := omega) only [go_sem, wr_i64, if_yes, if_no, ↓reduceIte, Nat.reduceAdd, Nat.reduceMul, Nat.reduceEqDiff, Nat.reduceBEq, Nat.reduceLeDiff, List.length_map, nl_rep, nl_len, Nat.zero_add]; rfl) ?_ | refine st_nil ?_ | refine st_seq ?_ | refine st_block ?_)
  have nbo : ∀ b' : Bid, b'.1 < h.clk → ¬ b' = (h.clk + 1, 15) := fun b' hb' => ne_fst hb' (by show h.clk ≤ h.clk + 1; omega)
  refine st_loopH (α := Nat × AH) tab mixed [] [] (by repeat (first | exact trivial | refine ⟨rfl, ?_⟩)) [] [] (by repeat (first | exact trivial | refine ⟨rfl, ?_⟩)) (fun a => [(10, .int .i64 (a.1 : Nat))]) [(1, _), (2, _), (3, _), (4, _), (9, _)] (fun _ => []) [] (fun a => a.2) (fun a => a.1 ≤ l.length ∧ a.2.at_ (h.clk + 1, 15) = some ⟨1, nl t.rooms.length fun q => sumF (hdF t (cls c) l step (q : Nat)) a.1⟩ ∧ h.clk + 1 < a.2.clk ∧ (∀ b' : Bid, b'.1 < h.clk → a.2.at_ b' = h.at_ b') ∧ a.2.lp = h.lp) (fun a => l.length - a.1) (by decide) (0, _) (by refine ⟨Nat.zero_le _, by simp only [go_sem, ↓reduceIte]; rfl, by simp only [go_sem]; omega, fun b' hb' => by simp only [go_sem, if_neg (nbo b' hb')], rfl⟩) (by (try simp only [go_sem]); repeat' (first | exact trivial | refine And.intro ?_ ?_ | rfl | (simp (disch := omega) only [go_sem, if_yes, if_no, ↓reduceIte, Nat.reduceAdd, Nat.reduceMul, Nat.reduceEqDiff, Nat.reduceBEq, Nat.reduceLeDiff]; rfl) | (simp (disch := omega) only [go_sem, if_yes, if_no, ↓reduceIte, Nat.reduceAdd, Nat.reduceMul, Nat.reduceEqDiff, Nat.reduceBEq, Nat.reduceLeDiff]))) (by (try simp only [go_sem]); repeat' (first | exact trivial | refine And.intro ?_ ?_ | rfl | (simp (disch := omega) only [go_sem, if_yes, if_no, ↓reduceIte, Nat.reduceAdd, Nat.reduceMul, Nat.reduceEqDiff, Nat.reduceBEq, Nat.reduceLeDiff]; rfl) | (simp (disch := omega) only [go_sem, if_yes, if_no, ↓reduceIte, Nat.reduceAdd, Nat.reduceMul, Nat.reduceEqDiff, Nat.reduceBEq, Nat.reduceLeDiff]))) (HOld.refl _) ?_
  rintro ⟨i, g⟩ d ⟨i1, i2, i3, i4, i5⟩ hd
  dsimp only at i1 i2 i3 i4 i5 hd
  simp only [go_sem]
  by_cases hi : i < l.length
  case pos =>
    have ha := hla i hi
    have k33 := c33 t c i (cm l i).at_ step hT (by omega) hcl hb ⟨ha.1, ha.2.1⟩ hs
    have hpl := plc_lt hT (hT.g i (by omega)) (cls c) (cm l i).at_ step
    have hF : ∀ q : Nat, hdF t (cls c) l step (q : Nat) i = if plc t (cls c) (gp t.gs i) (cm l i).at_ step = (q : Nat) then (cm l i).many else 0 := fun q => rfl
    generalize plc t (cls c) (gp t.gs i) (cm l i).at_ step = p at *
    by_cases hp : p < 0
    · have hst : (nl t.rooms.length fun q => sumF (hdF t (cls c) l step (q : Nat)) i) = nl t.rooms.length fun q => sumF (hdF t (cls c) l step (q : Nat)) (i + 1) :=
        nl_congr fun q hq => by show _ = sumF _ i + hdF t (cls c) l step (q : Nat) i; rw [hF, if_neg (by omega), Int.add_zero]
      repeat' (first | refine st_seq_reg rfl (by first | (simp only [go_sem, List.length_map, Nat.zero_add]; rfl) | rfl) (by first | (simp only [go_sem, List.length_map, Nat.zero_add]; rfl) | rfl) ?_ | refine st_reg rfl (by first | (simp only [go_sem, List.length_map, Nat.zero_add]; rfl) | rfl) (by first | (simp only [go_sem, List.length_map, Nat.zero_add]; rfl) | rfl) ?_ | refine st_seq_draw rfl (by first | (simp only [go_sem, List.length_map, Nat.zero_add]; rfl) | rfl) (by first | (simp only [go_sem, List.length_map, Nat.zero_add]; rfl) | rfl) ?_ | refine st_draw rfl (by first | (simp only [go_sem, List.length_map, Nat.zero_add]; rfl) | rfl) (by first | (simp only [go_sem, List.length_map, Nat.zero_add]; rfl) | rfl) ?_ | refine st_op ?_ | refine st_det rfl (by simp (disch := omega) only [go_sem, wr_i64, if_yes, if_no, ↓reduceIte, Nat.reduceAdd, Nat.reduceMul, Nat.reduceEqDiff, Nat.reduceBEq, Nat.reduceLeDiff, List.length_map, Nat.zero_add]; rfl) ?_ | refine st_dop rfl ?_ | (refine st_pureE (by first | (simp (disch := omega) only [go_sem, List.length_map, Nat.zero_add]; rfl) | rfl) rfl (k33) (by first | (simp only [go_sem, List.length_map, Nat.zero_add]; rfl) | rfl) (by intro n; first | (simp (disch := omega) only [go_sem]; rfl) | rfl) ?_; intro n hn) | (refine st_condS rfl ?_ ?_ <;> intro hg <;> (try simp only [decide_eq_true_eq, decide_eq_false_iff_not, Bool.not_eq_true', Bool.not_eq_false'] at hg)) | refine st_nil ?_ | refine st_dnil ?_ | refine st_tN ?_ | refine st_seq ?_ | refine st_block ?_ | refine st_skip ?_ | refine st_exit ?_ | refine st_ret ?_ | refine st_tE ?_ | refine st_bN ?_ | refine st_bH ?_)
      all_goals try (exfalso; omega)
      refine ⟨(i + 1, _), (by refine ⟨by show i + 1 ≤ _; omega, by simp only [go_sem]; rw [← hst]; exact i2, by simp only [go_sem]; omega, fun b' hb' => i4 b' hb', i5⟩), by show l.length - (i + 1) < l.length - i; omega, (by repeat' (first | exact trivial | refine And.intro ?_ ?_ | rfl | (simp (disch := omega) only [go_sem, if_yes, if_no, ↓reduceIte, Nat.reduceAdd, Nat.reduceMul, Nat.reduceEqDiff, Nat.reduceBEq, Nat.reduceLeDiff]; rfl) | (simp (disch := omega) only [go_sem, if_yes, if_no, ↓reduceIte, Nat.reduceAdd, Nat.reduceMul, Nat.reduceEqDiff, Nat.reduceBEq, Nat.reduceLeDiff]))), (by repeat' (first | exact trivial | refine And.intro ?_ ?_ | rfl | (simp (disch := omega) only [go_sem, if_yes, if_no, ↓reduceIte, Nat.reduceAdd, Nat.reduceMul, Nat.reduceEqDiff, Nat.reduceBEq, Nat.reduceLeDiff]; rfl) | (simp (disch := omega) only [go_sem, if_yes, if_no, ↓reduceIte, Nat.reduceAdd, Nat.reduceMul, Nat.reduceEqDiff, Nat.reduceBEq, Nat.reduceLeDiff]))), rfl, HOld.refl _⟩
    obtain ⟨p, rfl⟩ : ∃ m : Nat, p = m := ⟨p.toNat, by omega⟩
    have hpR : p < t.rooms.length := by omega
    have hsb := sumF_bd0 (F := hdF t (cls c) l step (p : Nat)) (n := l.length) (B := 1000000) (fun j hj => by
      have a := hla j hj
      unfold hdF; split <;> omega) i (by omega)
    have hsb2 : (i : Int) * 1000000 ≤ 12000000 := by omega
    have hst : (nl t.rooms.length fun q => sumF (hdF t (cls c) l step (q : Nat)) i).set p [.int .i64 (sumF (hdF t (cls c) l step (p : Nat)) i + (cm l i).many)] = nl t.rooms.length fun q => sumF (hdF t (cls c) l step (q : Nat)) (i + 1) := by
      rw [nl_set hpR]
      refine nl_congr fun q hq => ?_
      show _ = sumF _ i + hdF t (cls c) l step (q : Nat) i
      rw [hF]
      by_cases e : q = p
      · rw [if_pos e, if_pos (by omega), e]
      · rw [if_neg e, if_neg (by omega), Int.add_zero]
    repeat' (first | refine st_seq_reg rfl (by first | (simp only [go_sem, List.length_map, i2, nl_get, nl_len, Nat.zero_add, hst]; rfl) | rfl) (by first | (simp only [go_sem, List.length_map, i2, nl_get, nl_len, Nat.zero_add, hst]; rfl) | rfl) ?_ | refine st_reg rfl (by first | (simp only [go_sem, List.length_map, i2, nl_get, nl_len, Nat.zero_add, hst]; rfl) | rfl) (by first | (simp only [go_sem, List.length_map, i2, nl_get, nl_len, Nat.zero_add, hst]; rfl) | rfl) ?_ | refine st_seq_draw rfl (by first | (simp only [go_sem, List.length_map, i2, nl_get, nl_len, Nat.zero_add, hst]; rfl) | rfl) (by first | (simp only [go_sem, List.length_map, i2, nl_get, nl_len, Nat.zero_add, hst]; rfl) | rfl) ?_ | refine st_draw rfl (by first | (simp only [go_sem, List.length_map, i2, nl_get, nl_len, Nat.zero_add, hst]; rfl) | rfl) (by first | (simp only [go_sem, List.length_map, i2, nl_get, nl_len, Nat.zero_add, hst]; rfl) | rfl) ?_ | refine st_op ?_ | refine st_det rfl (by simp (disch := omega) only [go_sem, wr_i64, if_yes, if_no, ↓reduceIte, Nat.reduceAdd, Nat.reduceMul, Nat.reduceEqDiff, Nat.reduceBEq, Nat.reduceLeDiff, List.length_map, i2, nl_get, nl_len, Nat.zero_add, hst]; rfl) ?_ | refine st_dop rfl ?_ | refine st_store (by simp (disch := omega) only [go_sem, wr_i64, if_yes, if_no, ↓reduceIte, Nat.reduceAdd, Nat.reduceMul, Nat.reduceEqDiff, Nat.reduceBEq, Nat.reduceLeDiff, List.length_map, i2, nl_get, nl_len, Nat.zero_add, hst]; rfl) ?_ | (refine st_pureE (by first | (simp (disch := omega) only [go_sem, List.length_map, i2, nl_get, nl_len, Nat.zero_add, hst]; rfl) | rfl) rfl (k33) (by first | (simp only [go_sem, List.length_map, i2, nl_get, nl_len, Nat.zero_add, hst]; rfl) | rfl) (by intro n; first | (simp (disch := omega) only [go_sem]; rfl) | rfl) ?_; intro n hn) | refine st_condT rfl ?_ | (refine st_condS rfl ?_ ?_ <;> intro hg <;> (try simp only [decide_eq_true_eq, decide_eq_false_iff_not, Bool.not_eq_true', Bool.not_eq_false'] at hg)) | refine st_nil ?_ | refine st_dnil ?_ | refine st_tN ?_ | refine st_seq ?_ | refine st_block ?_ | refine st_skip ?_ | refine st_exit ?_ | refine st_ret ?_ | refine st_tE ?_ | refine st_bN ?_ | refine st_bH ?_)
    all_goals try (exfalso; omega)
    refine ⟨(i + 1, _), (by refine ⟨by show i + 1 ≤ _; omega, by simp only [go_sem, ↓reduceIte], by simp only [go_sem]; omega, fun b' hb' => by simp only [go_sem, if_neg (nbo b' hb')]; exact i4 b' hb', i5⟩), by show l.length - (i + 1) < l.length - i; omega, (by repeat' (first | exact trivial | refine And.intro ?_ ?_ | rfl | (simp (disch := omega) only [go_sem, if_yes, if_no, ↓reduceIte, Nat.reduceAdd, Nat.reduceMul, Nat.reduceEqDiff, Nat.reduceBEq, Nat.reduceLeDiff]; rfl) | (simp (disch := omega) only [go_sem, if_yes, if_no, ↓reduceIte, Nat.reduceAdd, Nat.reduceMul, Nat.reduceEqDiff, Nat.reduceBEq, Nat.reduceLeDiff]))), (by repeat' (first | exact trivial | refine And.intro ?_ ?_ | rfl | (simp (disch := omega) only [go_sem, if_yes, if_no, ↓reduceIte, Nat.reduceAdd, Nat.reduceMul, Nat.reduceEqDiff, Nat.reduceBEq, Nat.reduceLeDiff]; rfl) | (simp (disch := omega) only [go_sem, if_yes, if_no, ↓reduceIte, Nat.reduceAdd, Nat.reduceMul, Nat.reduceEqDiff, Nat.reduceBEq, Nat.reduceLeDiff]))), rfl, HOld.refl _⟩
  obtain rfl : i = l.length := by omega
  repeat' (first | refine st_seq_reg rfl (by first | (simp only [go_sem, List.length_map]; rfl) | rfl) (by first | (simp only [go_sem, List.length_map]; rfl) | rfl) ?_ | refine st_seq_draw rfl (by first | (simp only [go_sem, List.length_map]; rfl) | rfl) (by first | (simp only [go_sem, List.length_map]; rfl) | rfl) ?_ | refine st_op ?_ | refine st_det rfl (by simp (disch := omega) only [go_sem, wr_i64, if_yes, if_no, ↓reduceIte, Nat.reduceAdd, Nat.reduceMul, Nat.reduceEqDiff, Nat.reduceBEq, Nat.reduceLeDiff, List.length_map]; rfl) ?_ | refine st_dop rfl ?_ | (refine st_condS rfl ?_ ?_ <;> intro hg <;> (try simp only [decide_eq_true_eq, decide_eq_false_iff_not, Bool.not_eq_true', Bool.not_eq_false'] at hg)) | refine st_nil ?_ | refine st_tN ?_ | refine st_seq ?_ | refine st_block ?_ | refine st_skip ?_ | refine st_exit ?_ | refine st_ret ?_ | refine st_tE ?_ | refine st_bH ?_)
  all_goals try (exfalso; omega)
  simp (disch := omega) only [AEnd, Try.results35, aresK, fin, go_sem, ↓reduceIte, Nat.reduceEqDiff, Nat.reduceAdd, Nat.reduceLeDiff, if_yes, if_no, implies_true, true_and, and_true, List.reverse_cons, List.reverse_nil]
  refine ⟨i4, i5, .inr ⟨(h.clk + 1, 15), _, by show h.clk ≤ h.clk + 1; omega, i2, ?_⟩⟩
  simp only [frz]
  rw [if_pos ⟨trivial, by rw [nl_len]; omega⟩, List.drop_zero, List.take_of_length_le (by rw [nl_len]; exact Nat.le_refl _)]
end Go.Proofs.Ythjbfdfhblloiaa

/- Contracts of functions that the claim reaches: what each call gives, told in our own logic. Conditions: those of each theorem. -/
set_option linter.all false
set_option linter.unusedSimpArgs false
set_option linter.unusedVariables false
namespace Go.Proofs.Ythjbfdfhblloiaa
open Go.Av
attribute [local irreducible] thenA blockA awp awpOps awpD awp1
set_option maxHeartbeats 8000000
set_option maxRecDepth 20000
/-! ### A world: when each group came, and how many -/
structure CmS where
  i : Nat
  x : Int
  v : AV
  l : List Cm
  g : AH
def CmOk (t : Tw) (l : List Cm) : Prop := ∀ i, i < l.length → (gp t.gs i).alo ≤ (cm l i).at_ ∧ (cm l i).at_ ≤ (gp t.gs i).ahi ∧ (gp t.gs i).lo ≤ (cm l i).many ∧ (cm l i).many ≤ (gp t.gs i).hi
theorem cm_app {l : List Cm} {x : Cm} {j : Nat} (h : j < l.length) : cm (l ++ [x]) j = cm l j := by
  unfold cm; simp only [List.getD_eq_getElem?_getD]; rw [List.getElem?_append_left h]
theorem cm_last {l : List Cm} {x : Cm} : cm (l ++ [x]) l.length = x := by
  unfold cm; simp only [List.getD_eq_getElem?_getD]; simp
theorem CmOk.add {t : Tw} {l : List Cm} {x : Cm} (h : CmOk t l) (hx : (gp t.gs l.length).alo ≤ x.at_ ∧ x.at_ ≤ (gp t.gs l.length).ahi ∧ (gp t.gs l.length).lo ≤ x.many ∧ x.many ≤ (gp t.gs l.length).hi) : CmOk t (l ++ [x]) := by
  intro j hj
  rw [List.length_append, List.length_cons, List.length_nil] at hj
  by_cases q : j < l.length
  · rw [cm_app q]; exact h j q
  · obtain rfl : j = l.length := by omega
    rw [cm_last]; exact hx
theorem c55 (b : Nat × Nat) (t : Tw) (hT : TwOk t) : Drum Try.prog 55 [.ptr b 0 0, t.av] b (fun v => ∃ l : List Cm, v = .lst 2 (l.map Cm.row) ∧ l.length = t.gs.length ∧ CmOk t l) := by
  refine Drum.give Try.call55 fun h x hx hu hold => ?_
  have nbb : ∀ {b1 : Nat × Nat}, h.clk ≤ b1.1 → ¬ b1 = b := fun hb e => by rw [e] at hb; omega
  have hgn := hT.gn
  refine ACalls.of tab mixed Try.call55 Try.func55 rfl (fi := ⟨35, [], [3, 32], none, [(5, [0, 0, 0, 4, 0, 28, 60, 124, 254, 0, 0, 1024, 0, 7168, 15360, 31744, 65534, 131070, 262142, 524287, 1048575], [(0, false), (1, false), (2, false), (3, true), (4, false), (5, false), (6, false), (7, true), (9, false), (10, false), (11, true), (12, false), (13, false), (14, false), (15, true), (8, false), (16, false), (17, false), (18, false), (19, false), (20, false)])]⟩) rfl rfl (Nat.le_of_ble_eq_true rfl) (by decide) ?_
  unfold startA
  simp only [go_sem]
  repeat' (first | refine st_seq_reg rfl (by first | (simp only [go_sem]; rfl) | rfl) (by first | (simp only [go_sem]; rfl) | rfl) ?_ | refine st_op ?_ | refine st_det rfl (by simp (disch := omega) only [go_sem, wr_i64, if_yes, if_no, ↓reduceIte, Nat.reduceAdd, Nat.reduceMul, Nat.reduceEqDiff, Nat.reduceBEq, Nat.reduceLeDiff]; rfl) ?_ | refine st_nil ?_ | refine st_seq ?_ | refine st_block ?_)
  refine st_loopH (α := CmS) tab mixed [] [] (by repeat (first | exact trivial | refine ⟨rfl, ?_⟩)) [] [] (by repeat (first | exact trivial | refine ⟨rfl, ?_⟩)) (fun a => [(6, .int .i64 (a.i : Nat)), (5, a.v)]) [(0, _), (3, _)] (fun _ => []) [] (fun a => a.g) (fun a => Gd h b a.x a.g ∧ a.i ≤ t.gs.length ∧ SlA h.clk a.g a.v 2 (a.l.map Cm.row) ∧ a.l.length = a.i ∧ CmOk t a.l) (fun a => t.gs.length - a.i) (by decide) ⟨0, x, .nils, [], _⟩ (by refine ⟨⟨hu, by simp only [go_sem]; exact hx, fun _ _ _ => rfl, rfl, by simp only [go_sem]; omega⟩, Nat.zero_le _, .inl ⟨rfl, rfl⟩, rfl, fun i hi => absurd hi (Nat.not_lt_zero _)⟩) (by (try simp only [go_sem]); repeat' (first | exact trivial | refine And.intro ?_ ?_ | rfl | (simp (disch := omega) only [go_sem, if_yes, if_no, ↓reduceIte, Nat.reduceAdd, Nat.reduceMul, Nat.reduceEqDiff, Nat.reduceBEq, Nat.reduceLeDiff]; rfl) | (simp (disch := omega) only [go_sem, if_yes, if_no, ↓reduceIte, Nat.reduceAdd, Nat.reduceMul, Nat.reduceEqDiff, Nat.reduceBEq, Nat.reduceLeDiff]))) (by (try simp only [go_sem]); repeat' (first | exact trivial | refine And.intro ?_ ?_ | rfl | (simp (disch := omega) only [go_sem, if_yes, if_no, ↓reduceIte, Nat.reduceAdd, Nat.reduceMul, Nat.reduceEqDiff, Nat.reduceBEq, Nat.reduceLeDiff]; rfl) | (simp (disch := omega) only [go_sem, if_yes, if_no, ↓reduceIte, Nat.reduceAdd, Nat.reduceMul, Nat.reduceEqDiff, Nat.reduceBEq, Nat.reduceLeDiff]))) (HOld.refl _) ?_
  rintro ⟨i, x1, v, l, g⟩ d ⟨hG, i1, hS, hli, hC⟩ hd
  dsimp only at hG i1 hS hli hC hd
  have hu1 := hG.u
  have hd1 := hG.d
  have hgc := hG.cl
  simp only [go_sem]
  by_cases hi : i < t.gs.length
  case neg =>
    obtain rfl : i = t.gs.length := by omega
    repeat' (first | refine st_seq_reg rfl (by first | (simp only [go_sem, List.length_map]; rfl) | rfl) (by first | (simp only [go_sem, List.length_map]; rfl) | rfl) ?_ | refine st_draw rfl (by first | (simp only [go_sem, List.length_map]; rfl) | rfl) (by first | (simp only [go_sem, List.length_map]; rfl) | rfl) ?_ | refine st_op ?_ | refine st_det rfl (by simp (disch := omega) only [go_sem, wr_i64, if_yes, if_no, ↓reduceIte, Nat.reduceAdd, Nat.reduceMul, Nat.reduceEqDiff, Nat.reduceBEq, Nat.reduceLeDiff, List.length_map]; rfl) ?_ | refine st_dop rfl ?_ | (refine st_condS rfl ?_ ?_ <;> intro hg <;> (try simp only [decide_eq_true_eq, decide_eq_false_iff_not, Bool.not_eq_true', Bool.not_eq_false'] at hg)) | refine st_nil ?_ | refine st_tN ?_ | refine st_seq ?_ | refine st_block ?_ | refine st_skip ?_ | refine st_exit ?_ | refine st_ret ?_ | refine st_tE ?_ | refine st_bH ?_)
    all_goals try (exfalso; omega)
    simp (disch := omega) only [AEnd, Try.results55, aresK, fin, go_sem, ↓reduceIte, Nat.reduceEqDiff, Nat.reduceAdd, Nat.reduceLeDiff, if_yes, if_no, implies_true, true_and, and_true, List.reverse_cons, List.reverse_nil]
    refine ⟨hS.noL, hG.old, ⟨x1, hd1, hu1⟩, hG.lp, SlA.ans (h := h) (g := g) (R := fun v => ∃ l : List Cm, v = .lst 2 (l.map Cm.row) ∧ l.length = t.gs.length ∧ CmOk t l) hS ⟨l, rfl, hli, hC⟩⟩
  have hnc := hS.noL
  have hGp := hT.g i hi
  have hsz := hGp.size
  have hat := hGp.at_
  repeat' (first | refine st_seq_reg rfl (by first | (simp only [go_sem, hd1, hnc, List.length_map]; rfl) | rfl) (by first | (simp only [go_sem, hd1, hnc, List.length_map]; rfl) | rfl) ?_ | refine st_reg rfl (by first | (simp only [go_sem, hd1, hnc, List.length_map]; rfl) | rfl) (by first | (simp only [go_sem, hd1, hnc, List.length_map]; rfl) | rfl) ?_ | refine st_draw rfl (by first | (simp only [go_sem, hd1, hnc, List.length_map]; rfl) | rfl) (by first | (simp only [go_sem, hd1, hnc, List.length_map]; rfl) | rfl) ?_ | refine st_op ?_ | refine st_det rfl (by simp (disch := omega) only [go_sem, wr_i64, if_yes, if_no, ↓reduceIte, Nat.reduceAdd, Nat.reduceMul, Nat.reduceEqDiff, Nat.reduceBEq, Nat.reduceLeDiff, hd1, hnc, List.length_map]; rfl) ?_ | refine st_dop rfl ?_ | (refine st_drum (by first | (simp (disch := omega) only [go_sem, hd1, hnc, List.length_map]; rfl) | rfl) rfl (c86 b _ _ (by omega) (by omega)) (by first | (simp (disch := omega) only [go_sem, hd1, hnc, List.length_map]; rfl) | rfl) (by assumption) (by first | (simp only [go_sem, hd1, hnc, List.length_map]; rfl) | rfl) (by intro x' n; first | (simp (disch := omega) only [go_sem]; rfl) | rfl) ?_; rintro v x' n hu' ⟨r1, rfl, hr1⟩ hn) | (refine st_appS (by intro h id x y; simp only [go_sem]; rfl) rfl (by simp only [go_sem, hd1, hnc, List.length_map]; rfl) (by simp only [go_sem, hd1, hnc, List.length_map]; rfl) (by decide) hS (fun b1 m e => by simp only [go_sem, nbb (hS.lt e).1, ↓reduceIte]) (by omega) (by simp only [List.length_map, List.length_cons, List.length_nil, big, hd1, hnc, List.length_map]; omega) (by omega) (by omega) ?_; intro v' g' hA) | (refine st_condS rfl ?_ ?_ <;> intro hg <;> (try simp only [decide_eq_true_eq, decide_eq_false_iff_not, Bool.not_eq_true', Bool.not_eq_false'] at hg)) | refine st_nil ?_ | refine st_dnil ?_ | refine st_tN ?_ | refine st_seq ?_ | refine st_block ?_ | refine st_skip ?_ | refine st_exit ?_ | refine st_ret ?_ | refine st_tE ?_ | refine st_bN ?_ | refine st_bH ?_)
  all_goals try (exfalso; omega)
  rename_i r2 hr2 hnn
  refine ⟨⟨i + 1, x', v', l ++ [⟨r2, r1⟩], _⟩, (by refine ⟨(hG.put (by assumption) (n := n) (by omega)).app hold (Nat.le_refl _) hA (by simp only [go_sem]; omega), by show i + 1 ≤ _; omega, by rw [List.map_append]; exact hA.sl.to (fun _ _ _ _ _ => rfl) (by simp only [go_sem]; omega), by rw [List.length_append, hli]; rfl, hC.add (by rw [hli]; exact ⟨hr2.1, hr2.2, hr1.1, hr1.2⟩)⟩), by show t.gs.length - (i + 1) < t.gs.length - i; omega, (by repeat' (first | exact trivial | refine And.intro ?_ ?_ | rfl | (simp (disch := omega) only [go_sem, if_yes, if_no, ↓reduceIte, Nat.reduceAdd, Nat.reduceMul, Nat.reduceEqDiff, Nat.reduceBEq, Nat.reduceLeDiff]; rfl) | (simp (disch := omega) only [go_sem, if_yes, if_no, ↓reduceIte, Nat.reduceAdd, Nat.reduceMul, Nat.reduceEqDiff, Nat.reduceBEq, Nat.reduceLeDiff]))), (by repeat' (first | exact trivial | refine And.intro ?_ ?_ | rfl | (simp (disch := omega) only [go_sem, if_yes, if_no, ↓reduceIte, Nat.reduceAdd, Nat.reduceMul, Nat.reduceEqDiff, Nat.reduceBEq, Nat.reduceLeDiff]; rfl) | (simp (disch := omega) only [go_sem, if_yes, if_no, ↓reduceIte, Nat.reduceAdd, Nat.reduceMul, Nat.reduceEqDiff, Nat.reduceBEq, Nat.reduceLeDiff]))), rfl, HOld.refl _⟩
end Go.Proofs.Ythjbfdfhblloiaa

/- Contracts of functions that the claim reaches: what each call gives, told in our own logic. Conditions: those of each theorem. -/
set_option linter.all false
set_option linter.unusedSimpArgs false
set_option linter.unusedVariables false
namespace Go.Proofs.Ythjbfdfhblloiaa
open Go.Av
attribute [local irreducible] thenA blockA awp awpOps awpD awp1
set_option maxHeartbeats 8000000
set_option maxRecDepth 20000
/-! ### All choices, as a list -/
def rowA (r : List Int) : List AV := [.lst 1 (r.map iv)]
def lel (l : List (List Int)) (i : Nat) : List Int := l.getD i []
@[go_sem] theorem rowA_getD {l : List (List Int)} {i : Nat} (h : i < l.length) : (l.map rowA).getD i [] = [.lst 1 ((lel l i).map iv)] := by
  simp [lel, rowA, List.getD_eq_getElem?_getD, h]
def rowsN (bs : Nat → Nat × Nat) (t : List (List Int)) : List (List AV) := (List.range t.length).map fun j => nrow (bs j) ((lel t j).map iv)
theorem lel_app {t : List (List Int)} {r : List Int} {j : Nat} (h : j < t.length) : lel (t ++ [r]) j = lel t j := by
  unfold lel; simp only [List.getD_eq_getElem?_getD]; rw [List.getElem?_append_left h]
theorem lel_last {t : List (List Int)} {r : List Int} : lel (t ++ [r]) t.length = r := by
  unfold lel; simp only [List.getD_eq_getElem?_getD]; simp
/-- The rows that lie in blocks. -/
structure RowsN (n0 : Nat) (g : AH) (v : AV) (bs : Nat → Nat × Nat) (t : List (List Int)) : Prop where
  at_ : ∀ j, j < t.length → g.at_ (bs j) = some ⟨1, (lel t j).map iv⟩
  ge : ∀ j, j < t.length → n0 ≤ (bs j).1
  lt : ∀ j, j < t.length → (bs j).1 < g.clk
  ne : ∀ j, j < t.length → ∀ m, v ≠ .slc (bs j) 1 0 m
  inj : ∀ j k, j < t.length → k < t.length → bs j = bs k → j = k
theorem RowsN.add {n0 k0 d N nn : Nat} {g H G : AH} {v v' : AV} {bs : Nat → Nat × Nat} {t : List (List Int)} {row : List Int} {bb : Nat × Nat} {l : List (List AV)} (hA : AppA n0 k0 d H v 1 nn l v' G) (hR : RowsN n0 g v bs t) (hS : SlA n0 g v 1 (rowsN bs t)) (hH : ∀ b : Bid, b.1 < g.clk → H.at_ b = g.at_ b) (hbb : H.at_ bb = some ⟨1, row.map iv⟩) (hb1 : g.clk ≤ bb.1) (hbN : bb.1 < N) (hbd : bb ≠ (k0, d)) (hk0 : g.clk ≤ k0) (hn0 : n0 ≤ g.clk) : RowsN n0 (G.tick N) v' (fun j => if j = t.length then bb else bs j) (t ++ [row]) := by
  have hlen : (t ++ [row]).length = t.length + 1 := by simp
  have hnew : ∀ b' : Nat × Nat, (∀ m, v' = .slc b' 1 0 m → b' = (k0, d)) := fun b' m e => by
    rcases hA.new with e' | e'
    · rw [e'] at e; cases e
    · rw [e'] at e; injection e with e1; exact e1.symm
  refine ⟨fun j hj => ?_, fun j hj => ?_, fun j hj => ?_, fun j hj m e => ?_, fun j k hj hk e => ?_⟩
  · show G.at_ (if j = t.length then bb else bs j) = _
    by_cases q : j = t.length
    · rw [if_pos q, q, lel_last, hA.keep bb (fun m e => by have := (hS.lt e).2.1; omega) hbd]; exact hbb
    · have hj' : j < t.length := by omega
      have q2 := hR.lt j hj'
      rw [if_neg q, lel_app hj', hA.keep (bs j) (hR.ne j hj') (fun e => by rw [e] at q2; dsimp only at q2; omega), hH _ q2]
      exact hR.at_ j hj'
  · show _ ≤ (if j = t.length then bb else bs j).1
    by_cases q : j = t.length
    · rw [if_pos q]; omega
    · rw [if_neg q]; exact hR.ge j (by omega)
  · show (if j = t.length then bb else bs j).1 < N
    by_cases q : j = t.length
    · rw [if_pos q]; exact hbN
    · rw [if_neg q]; have := hR.lt j (by omega); omega
  · have q1 := hnew _ m e
    by_cases q : j = t.length
    · rw [if_pos q] at q1; exact hbd q1
    · rw [if_neg q] at q1; have := hR.lt j (by omega); rw [q1] at this; dsimp only at this; omega
  · have e : (if j = t.length then bb else bs j) = (if k = t.length then bb else bs k) := e
    by_cases q : j = t.length
    · by_cases q2 : k = t.length
      · omega
      · rw [if_pos q, if_neg q2] at e; have := hR.lt k (by omega); rw [← e] at this; omega
    · by_cases q2 : k = t.length
      · rw [if_neg q, if_pos q2] at e; have := hR.lt j (by omega); rw [e] at this; omega
      · rw [if_neg q, if_neg q2] at e; exact hR.inj j k (by omega) (by omega) e
theorem RowsN.tick {n0 : Nat} {g : AH} {v : AV} {bs : Nat → Nat × Nat} {t : List (List Int)} (hR : RowsN n0 g v bs t) {n : Nat} (hn : g.clk ≤ n) : RowsN n0 (g.tick n) v bs t :=
  ⟨hR.at_, hR.ge, fun j hj => Nat.lt_of_lt_of_le (hR.lt j hj) hn, hR.ne, hR.inj⟩
def chG (n m : Nat) (i : Nat) : List (List Int) := (chs n m (i + 1)).map (((i : Nat) : Int) :: ·)
theorem VLe.lst {e : Nat} {es es' : List (List AV)} (hl : es'.length = es.length) (hr : ∀ c xs, VRss c es xs → VRss c es' xs) (hc : ∀ r ∈ es', r.length = e ∧ r.all AV.cell = true) : VLe (.lst e es) (.lst e es') := by
  intro c x h
  simp only [VR] at h ⊢
  obtain ⟨a, cap, vs, h1, h2, h3, h4, h5, h6⟩ := h
  refine ⟨a, cap, vs, by rw [hl]; exact h1, by rw [hl]; exact h2, fun ea => ?_, hc, h5, hr c vs h6⟩
  have := h3 ea
  subst this
  exact List.length_eq_zero_iff.1 hl
end Go.Proofs.Ythjbfdfhblloiaa

/- Contracts of functions that the claim reaches: what each call gives, told in our own logic. Conditions: those of each theorem. -/
set_option linter.all false
set_option linter.unusedSimpArgs false
set_option linter.unusedVariables false
namespace Go.Proofs.Ythjbfdfhblloiaa
open Go.Av
attribute [local irreducible] thenA blockA awp awpOps awpD awp1
set_option maxHeartbeats 8000000
set_option maxRecDepth 20000
/-! ### CrowdFewest -/
theorem chs_ok {t : Tw} {n : Nat} : ∀ (m a : Nat) (x : List Int), x ∈ chs n m a → x.length = m ∧ (∀ i, i < x.length → (a : Int) ≤ elt x i ∧ elt x i < n) ∧ ∀ i, 0 < i → i < x.length → elt x (i - 1) < elt x i
  | 0, a, x, hx => by
    have : x = [] := by simpa [chs] using hx
    subst this
    exact ⟨rfl, fun i hi => absurd hi (Nat.not_lt_zero _), fun i _ hi => absurd hi (Nat.not_lt_zero _)⟩
  | m + 1, a, x, hx => by
    have key : ∀ k, a + k ≤ n ∨ k = 0 → x ∈ catK (chG n m) a k → ∃ j y, a ≤ j ∧ j < n ∧ x = ((j : Nat) : Int) :: y ∧ y ∈ chs n m (j + 1) := by
      intro k
      induction k with
      | zero => intro _ h; cases h
      | succ k ih =>
        intro hk h
        rcases List.mem_append.1 (show x ∈ catK (chG n m) a k ++ chG n m (a + k) from h) with h | h
        · exact ih (by omega) h
        · unfold chG at h
          obtain ⟨y, hy, rfl⟩ := List.mem_map.1 h
          exact ⟨a + k, y, by omega, by omega, rfl, hy⟩
    obtain ⟨j, y, h1, h2, rfl, h3⟩ := key (n - a) (by omega) hx
    obtain ⟨q1, q2, q3⟩ := chs_ok (t := t) m (j + 1) y h3
    have e0 : elt (((j : Nat) : Int) :: y) 0 = j := rfl
    have es : ∀ i, elt (((j : Nat) : Int) :: y) (i + 1) = elt y i := fun i => rfl
    refine ⟨by simp [q1], fun i hi => ?_, fun i h0 hi => ?_⟩
    · cases i with
      | zero => rw [e0]; omega
      | succ i => rw [es]; have := q2 i (by simpa using hi); omega
    · obtain ⟨i, rfl⟩ : ∃ i', i = i' + 1 := ⟨i - 1, by omega⟩
      rw [Nat.add_sub_cancel, es]
      cases i with
      | zero => rw [e0]; have := q2 0 (by simpa using hi); omega
      | succ i => rw [es]; have := q3 (i + 1) (by omega) (by simpa using hi); simpa using this
end Go.Proofs.Ythjbfdfhblloiaa

/- Contracts of functions that the claim reaches: what each call gives, told in our own logic. Conditions: those of each theorem. -/
set_option linter.all false
set_option linter.unusedSimpArgs false
set_option linter.unusedVariables false
namespace Go.Proofs.Ythjbfdfhblloiaa
open Go.Av
set_option maxRecDepth 20000
/-! ### Towns that know more, plain -/
structure GpLe (a b : Gp) : Prop where
  stay : a.stay = b.stay
  first : a.first = b.first
  path : a.path = b.path
  lo : b.lo ≤ a.lo
  lh : a.lo ≤ a.hi
  hi : a.hi ≤ b.hi
  alo : b.alo ≤ a.alo
  mid : a.alo ≤ a.ahi
  ahi : a.ahi ≤ b.ahi
structure TwLe (u t : Tw) : Prop where
  sts : u.sts = t.sts
  steps : u.steps = t.steps
  rl : u.rooms.length = t.rooms.length
  room : ∀ i, i < t.rooms.length → elt t.rooms i ≤ elt u.rooms i
  gl : u.gs.length = t.gs.length
  g : ∀ i, i < t.gs.length → GpLe (gp u.gs i) (gp t.gs i)
theorem wlk_congr {u t : Tw} (h : u.sts = t.sts) (s : Nat → Int) : ∀ (p : List Int) (k : Nat) (q : Int), wlk u s p k q = wlk t s p k q
  | [], _, _ => rfl
  | _ :: _, 0, _ => rfl
  | p :: ps, k + 1, q => by
    show (if s p.toNat = 0 then -2 else if s p.toNat = 2 then q else wlk u s ps k (oth (sx u.sts p.toNat) q)) = (if s p.toNat = 0 then -2 else if s p.toNat = 2 then q else wlk t s ps k (oth (sx t.sts p.toNat) q))
    rw [wlk_congr h s ps k, h]
theorem plc_congr {u t : Tw} (h : u.sts = t.sts) (s : Nat → Int) {a b : Gp} (k : GpLe a b) (c st : Int) : plc u s a c st = plc t s b c st := by
  unfold plc; rw [wlk_congr h, k.stay, k.first, k.path]
theorem TwLe.ldHi {u t : Tw} (h : TwLe u t) (h0 : ∀ i, i < t.gs.length → 0 ≤ (gp t.gs i).hi) (s : Nat → Int) (q st : Int) : Go.Proofs.Ythjbfdfhblloiaa.ldHi u s q st ≤ Go.Proofs.Ythjbfdfhblloiaa.ldHi t s q st := by
  unfold Go.Proofs.Ythjbfdfhblloiaa.ldHi
  rw [h.gl]
  refine sumF_le fun i hi => ?_
  have k := h.g i hi
  unfold hiF
  by_cases e : someB u s (gp u.gs i) q st = true
  · obtain ⟨c, h1, h2, h3⟩ := someB_iff.1 e
    have e2 : someB t s (gp t.gs i) q st = true := someB_iff.2 ⟨c, by have := k.alo; omega, by have := k.ahi; omega, by rw [← plc_congr h.sts s k]; exact h3⟩
    rw [if_pos e, if_pos e2]; exact k.hi
  · rw [if_neg e]
    split
    · exact h0 i hi
    · exact Int.le_refl _
theorem TwLe.ldLo {u t : Tw} (h : TwLe u t) (h0 : ∀ i, i < t.gs.length → 0 ≤ (gp t.gs i).lo) (s : Nat → Int) (q st : Int) : Go.Proofs.Ythjbfdfhblloiaa.ldLo t s q st ≤ Go.Proofs.Ythjbfdfhblloiaa.ldLo u s q st := by
  unfold Go.Proofs.Ythjbfdfhblloiaa.ldLo
  rw [h.gl]
  refine sumF_le fun i hi => ?_
  have k := h.g i hi
  have h00 := h0 i hi
  have hl := k.lo
  unfold loF
  by_cases e : allB t s (gp t.gs i) q st = true
  · have e2 : allB u s (gp u.gs i) q st = true := allB_iff.2 fun c h1 h2 => by
      rw [plc_congr h.sts s k]
      exact allB_iff.1 e c (by have := k.alo; omega) (by have := k.ahi; omega)
    rw [if_pos e, if_pos e2]; exact k.lo
  · rw [if_neg e]
    split <;> omega
theorem catN_nil {α : Type} {g : Nat → List α} : ∀ {n : Nat}, catN g n = [] ↔ ∀ i, i < n → g i = []
  | 0 => ⟨fun _ i hi => absurd hi (Nat.not_lt_zero _), fun _ => rfl⟩
  | n + 1 => by
    show catN g n ++ g n = [] ↔ _
    rw [List.append_eq_nil_iff, catN_nil]
    constructor
    · rintro ⟨h1, h2⟩ i hi
      by_cases e : i = n
      · rw [e]; exact h2
      · exact h1 i (by omega)
    · intro h
      exact ⟨fun i hi => h i (by omega), h n (by omega)⟩
theorem mem_catN {α : Type} {g : Nat → List α} {x : α} : ∀ {n : Nat}, x ∈ catN g n ↔ ∃ i, i < n ∧ x ∈ g i
  | 0 => ⟨fun h => (by cases h), fun ⟨i, hi, _⟩ => absurd hi (Nat.not_lt_zero _)⟩
  | n + 1 => by
    show x ∈ catN g n ++ g n ↔ _
    rw [List.mem_append, mem_catN]
    constructor
    · rintro (⟨i, h1, h2⟩ | h)
      · exact ⟨i, by omega, h2⟩
      · exact ⟨n, by omega, h⟩
    · rintro ⟨i, h1, h2⟩
      by_cases e : i = n
      · rw [e] at h2; exact .inr h2
      · exact .inl ⟨i, by omega, h2⟩
theorem okB_iff {t : Tw} {l : List Int} : okB t l = true ↔ ∀ st q : Nat, st < (t.steps + 1).toNat → q < t.rooms.length → Go.Proofs.Ythjbfdfhblloiaa.ldHi t (cls l) (q : Nat) (st : Nat) ≤ elt t.rooms q := by
  unfold okB
  rw [List.isEmpty_iff]
  unfold crL
  rw [catN_nil]
  constructor
  · intro h st q h1 h2
    have := catN_nil.1 (h st h1) q h2
    unfold crF at this
    by_cases e : elt t.rooms q < Go.Proofs.Ythjbfdfhblloiaa.ldHi t (cls l) (q : Nat) (st : Nat)
    · rw [if_pos e] at this; cases this
    · omega
  · intro h st h1
    refine catN_nil.2 fun q h2 => ?_
    unfold crF
    rw [if_neg (by have := h st q h1 h2; omega)]
theorem TwLe.okB {u t : Tw} (h : TwLe u t) (h0 : ∀ i, i < t.gs.length → 0 ≤ (gp t.gs i).hi) {l : List Int} (k : Go.Proofs.Ythjbfdfhblloiaa.okB t l = true) : Go.Proofs.Ythjbfdfhblloiaa.okB u l = true := by
  rw [okB_iff] at k ⊢
  intro st q h1 h2
  rw [h.steps] at h1; rw [h.rl] at h2
  have e1 := k st q h1 h2
  have e2 := h.ldHi h0 (cls l) (q : Nat) (st : Nat)
  have e3 := h.room q h2
  omega
theorem TwLe.clo {u t : Tw} (h : TwLe u t) (h0 : ∀ i, i < t.gs.length → 0 ≤ (gp t.gs i).hi) {A : List Int} (k : Go.Proofs.Ythjbfdfhblloiaa.clo t t.sts.length = some A) : ∃ B, Go.Proofs.Ythjbfdfhblloiaa.clo u u.sts.length = some B ∧ B.length ≤ A.length := by
  rw [h.sts]
  unfold Go.Proofs.Ythjbfdfhblloiaa.clo chsAll at *
  rw [h.sts, Nat.min_self]
  rw [Nat.min_self] at k
  obtain ⟨m, hm, hA⟩ := mem_catN.1 (List.mem_of_find?_eq_some k)
  have hAl := (chs_ok (t := t) m 0 A hA).1
  have hp : (crL u (cls A)).isEmpty = true := h.okB h0 (l := A) (List.find?_some k)
  have hin : A ∈ catN (fun m => chs t.sts.length m 0) (m + 1) := mem_catN.2 ⟨m, by omega, hA⟩
  cases e : (catN (fun m => chs t.sts.length m 0) (m + 1)).find? fun l => (crL u (cls l)).isEmpty with
  | none => exact absurd hp (by rw [List.find?_eq_none] at e; exact e A hin)
  | some B =>
    refine ⟨B, catN_fpre e (by omega), ?_⟩
    obtain ⟨j, hj, hB⟩ := mem_catN.1 (List.mem_of_find?_eq_some e)
    have := (chs_ok (t := t) j 0 B hB).1
    omega
theorem TwLe.ok {u t : Tw} (h : TwLe u t) (hT : TwOk t) (hr : ∀ i, i < t.rooms.length → elt u.rooms i ≤ 1000000) : TwOk u := by
  have e1 := h.rl
  refine ⟨by rw [e1]; exact hT.r0, by rw [e1]; exact hT.rn, fun i hi => ?_, by rw [h.sts]; exact hT.sn, fun i hi => ?_, by rw [h.steps]; exact hT.steps, by rw [h.gl]; exact hT.gn, fun i hi => ?_⟩
  · rw [e1] at hi
    have a := hT.room i hi; have b := h.room i hi; have c := hr i hi
    omega
  · rw [h.sts] at hi
    have := hT.st i hi
    rw [h.sts, e1]; exact this
  · rw [h.gl] at hi
    have k := h.g i hi
    have a := hT.g i hi
    have a1 := a.size; have a2 := a.at_; have k1 := k.lo; have k2 := k.hi; have k3 := k.alo; have k4 := k.ahi; have k5 := k.lh; have k6 := k.mid
    refine ⟨by omega, by omega, by rw [k.stay]; exact a.stay, by rw [k.first, e1]; exact a.first, by rw [k.path]; exact a.many, fun j hj => ?_, fun j hj => ?_⟩
    · rw [k.path] at hj ⊢; rw [h.sts]; exact a.st j hj
    · rw [k.path] at hj ⊢; rw [k.first, wayN_congr h.sts]; exact a.way j hj
theorem TwLe.refl {t : Tw} (hT : TwOk t) : TwLe t t :=
  ⟨rfl, rfl, rfl, fun _ _ => Int.le_refl _, rfl, fun i hi => by
    have a := hT.g i hi
    have a1 := a.size; have a2 := a.at_
    exact ⟨rfl, rfl, rfl, Int.le_refl _, a1.2.1, Int.le_refl _, Int.le_refl _, a2.2.1, Int.le_refl _⟩⟩
end Go.Proofs.Ythjbfdfhblloiaa

/- Contracts of functions that the claim reaches: what each call gives, told in our own logic. Conditions: those of each theorem. -/
set_option linter.all false
set_option linter.unusedSimpArgs false
set_option linter.unusedVariables false
namespace Go.Proofs.Ythjbfdfhblloiaa
open Go.Av
set_option maxRecDepth 20000
/-! ### However many truly come, plain -/
theorem held_bd {t : Tw} (hT : TwOk t) {l : List Cm} (hl : l.length = t.gs.length) (hC : CmOk t l) (s : Nat → Int) (q st : Int) : ldLo t s q st ≤ sumF (hdF t s l st q) l.length ∧ sumF (hdF t s l st q) l.length ≤ ldHi t s q st := by
  rw [hl]
  refine ⟨sumF_le fun i hi => ?_, sumF_le fun i hi => ?_⟩
  all_goals
    have hc := hC i (by omega)
    have hg := (hT.g i hi).size
  · unfold loF hdF
    by_cases e : allB t s (gp t.gs i) q st = true
    · rw [if_pos e, if_pos (allB_iff.1 e _ hc.1 hc.2.1)]; omega
    · rw [if_neg e]; split <;> omega
  · unfold hiF hdF
    by_cases e : plc t s (gp t.gs i) (cm l i).at_ st = q
    · rw [if_pos e, if_pos (someB_iff.2 ⟨_, hc.1, hc.2.1, e⟩)]; omega
    · rw [if_neg e]; split <;> omega
theorem crush_in {t : Tw} {s : Nat → Int} {q st : Nat} (h1 : st < (t.steps + 1).toNat) (h2 : q < t.rooms.length) (h : elt t.rooms q < ldHi t s (q : Nat) (st : Nat)) : ∃ x ∈ crL t s, x.step = (st : Nat) ∧ x.sq = (q : Nat) :=
  ⟨⟨(st : Nat), (q : Nat), ldHi t s (q : Nat) (st : Nat)⟩, mem_catN.2 ⟨st, h1, mem_catN.2 ⟨q, h2, by unfold crF; rw [if_pos h]; simp⟩⟩, rfl, rfl⟩
end Go.Proofs.Ythjbfdfhblloiaa
