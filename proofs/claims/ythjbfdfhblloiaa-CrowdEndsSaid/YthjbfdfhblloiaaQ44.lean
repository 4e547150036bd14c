/- Contracts of functions that the claim reaches: what each call gives, told in our own logic. Conditions: those of each theorem. -/
import Derived.Test.YthjbfdfhblloiaaQ43
import Derived.Test.YthjbfdfhblloiaaW4
import Derived.Test.YthjbfdfhblloiaaW6a
set_option linter.all false
set_option linter.unusedSimpArgs false
set_option linter.unusedVariables false
namespace Go.Proofs.Ythjbfdfhblloiaa
open Go.Av
attribute [local irreducible] thenA blockA awp awpOps awpD awp1
set_option maxHeartbeats 8000000
set_option maxRecDepth 20000
/-! ### What squares hold -/
structure Cm where
  at_ : Int
  many : Int
def Cm.row (x : Cm) : List AV := [.int .i64 x.at_, .int .i64 x.many]
@[go_sem] theorem Cm.row_eq (x : Cm) : x.row = [.int .i64 x.at_, .int .i64 x.many] := rfl
def cm (l : List Cm) (i : Nat) : Cm := l.getD i ⟨0, 0⟩
@[go_sem] theorem cmrow_getD {l : List Cm} {i : Nat} (h : i < l.length) : (l.map Cm.row).getD i [] = (cm l i).row := by
  simp [List.getD_eq_getElem?_getD, h, cm]
def hdF (t : Tw) (s : Nat → Int) (l : List Cm) (step q : Int) (i : Nat) : Int := if plc t s (gp t.gs i) (cm l i).at_ step = q then (cm l i).many else 0
theorem wayN_lt {t : Tw} (hT : TwOk t) {g : Gp} (hG : GpOk t g) : ∀ i, i ≤ g.path.length → wayN t g.path g.first i < t.rooms.length
  | 0, _ => hG.first.2
  | i + 1, hi => by
    have a := hG.st i (by omega)
    exact oth_bd hT (i := (elt g.path i).toNat) (by omega) (hG.way (i + 1) hi)
theorem wlk_lt {t : Tw} (hT : TwOk t) {g : Gp} (hG : GpOk t g) (f : Nat → Int) : ∀ (n i k : Nat), i + n = g.path.length → wlk t f (g.path.drop i) k (wayN t g.path g.first i) < t.rooms.length
  | 0, i, k, h => by
    have hw := wayN_lt hT hG i (by omega)
    have hr := hT.r0
    rw [List.drop_eq_nil_of_le (by omega)]
    show (if 0 < k then (-1 : Int) else _) < _
    split <;> omega
  | n + 1, i, 0, h => by
    have hw := wayN_lt hT hG i (by omega)
    rw [drop_getD 0 (by omega : i < g.path.length)]; exact hw
  | n + 1, i, k + 1, h => by
    have hw := wayN_lt hT hG i (by omega)
    have hr := hT.r0
    have ih := wlk_lt hT hG f n (i + 1) k (by omega)
    rw [drop_getD 0 (by omega : i < g.path.length)]
    show (if f (elt g.path i).toNat = 0 then (-2 : Int) else if f (elt g.path i).toNat = 2 then wayN t g.path g.first i else wlk t f (g.path.drop (i + 1)) k (oth (sx t.sts (elt g.path i).toNat) (wayN t g.path g.first i))) < _
    split
    · omega
    · split
      · exact hw
      · exact ih
theorem plc_lt {t : Tw} (hT : TwOk t) {g : Gp} (hG : GpOk t g) (f : Nat → Int) (came step : Int) : plc t f g came step < t.rooms.length := by
  have hr := hT.r0
  unfold plc
  split
  · omega
  · exact wlk_lt hT hG f g.path.length 0 _ (by omega)
theorem c35 (t : Tw) (c : List Int) (l : List Cm) (step : Int) (hT : TwOk t) (hl : l.length ≤ t.gs.length) (hcl : c.length ≤ 1000000) (hb : ∀ i, i < c.length → 0 ≤ elt c i ∧ elt c i < t.sts.length) (hs : 0 ≤ step ∧ step ≤ 96) (hla : ∀ i, i < l.length → 0 ≤ (cm l i).at_ ∧ (cm l i).at_ ≤ 96 ∧ 0 ≤ (cm l i).many ∧ (cm l i).many ≤ 1000000) : Pure Try.prog 35 [t.av, .lst 1 (c.map iv), .lst 2 (l.map Cm.row), .int .i64 step] (fun v => v = .lst 1 (nl t.rooms.length fun q => sumF (hdF t (cls c) l step (q : Nat)) l.length)) := by
  have hrn := hT.rn
  have hgn := hT.gn
  have ht0 : t.av = .agg t.cells := rfl
  refine Pure.give Try.call35 fun h hall => ?_
  refine ACalls.of tab mixed Try.call35 Try.func35 rfl (fi := ⟨48, [], [4], none, [(5, [0, 0, 0, 0, 0, 24, 56, 120, 0, 511, 1023], [(0, true), (1, false), (2, false), (3, false), (4, false), (5, false), (6, false), (7, true), (8, false), (9, false), (10, false)]), (7, [0, 0, 0, 0, 12, 28, 0, 0, 192, 448, 960, 2044, 4095, 8191], [(0, false), (1, false), (2, false), (3, false), (4, false), (5, false), (6, false), (7, false), (8, false), (9, false), (10, true), (11, false), (12, false), (13, true)])]⟩) rfl rfl (Nat.le_of_ble_eq_true rfl) (by decide) ?_
  unfold startA
  simp only [go_sem]
  repeat' (first | refine st_seq_reg rfl (by first | (simp only [go_sem, List.length_map, nl_rep, nl_len, Nat.zero_add]; rfl) | rfl) (by first | (simp only [go_sem, List.length_map, nl_rep, nl_len, Nat.zero_add]; rfl) | rfl) ?_ | refine st_reg rfl (by first | (simp only [go_sem, List.length_map, nl_rep, nl_len, Nat.zero_add]; rfl) | rfl) (by first | (simp only [go_sem, List.length_map, nl_rep, nl_len, Nat.zero_add]; rfl) | rfl) ?_ | refine st_seq_draw rfl (by first | (simp only [go_sem, List.length_map, nl_rep, nl_len, Nat.zero_add]; rfl) | rfl) (by first | (simp only [go_sem, List.length_map, nl_rep, nl_len, Nat.zero_add]; rfl) | rfl) ?_ | refine st_draw rfl (by first | (simp only [go_sem, List.length_map, nl_rep, nl_len, Nat.zero_add]; rfl) | rfl) (by first | (simp only [go_sem, List.length_map, nl_rep, nl_len, Nat.zero_add]; rfl) | rfl) ?_ | refine st_op ?_ | refine st_det rfl (by simp (disch := omega) only [go_sem, wr_i64, if_yes, if_no, ↓reduceIte, Nat.reduceAdd, Nat.reduceMul, Nat.reduceEqDiff, Nat.reduceBEq, Nat.reduceLeDiff, List.length_map, nl_rep, nl_len, Nat.zero_add]; rfl) ?_ | refine st_dop rfl ?_ | refine st_loc rfl (by simp (disch := omega) only [go_sem, wr_i64, if_yes, if_no, ↓reduceIte, Nat.reduceAdd, Nat.reduceMul, Nat.reduceEqDiff, Nat.reduceBEq, Nat.reduceLeDiff, List.length_map, nl_rep, nl_len, Nat.zero_add]; rfl) ?_ | refine st_heap rfl (by simp (disch := omega) only [go_sem, wr_i64, if_yes, if_no, ↓reduceIte, Nat.reduceAdd, Nat.reduceMul, Nat.reduceEqDiff, Nat.reduceBEq, Nat.reduceLeDiff, List.length_map, nl_rep, nl_len, Nat.zero_add]; rfl) ?_ | refine st_store (by simp (disch := omega) only [go_sem, wr_i64, if_yes, if_no, ↓reduceIte, Nat.reduceAdd, Nat.reduceMul, Nat.reduceEqDiff, Nat.reduceBEq, Nat.reduceLeDiff, List.length_map, nl_rep, nl_len, Nat.zero_add]; rfl) ?_ | refine st_condT rfl ?_ | refine st_condF rfl ?_ | (refine st_condS rfl ?_ ?_ <;> intro hg <;> (try simp only [decide_eq_true_eq, decide_eq_false_iff_not, Bool.not_eq_true', Bool.not_eq_false'] at hg)) | refine st_nil ?_ | refine st_dnil ?_ | refine st_tN ?_ | refine st_seq ?_ | refine st_block ?_ | refine st_skip ?_ | refine st_exit ?_ | refine st_ret ?_ | refine st_tE ?_ | refine st_tR ?_ | refine st_bN ?_ | refine st_bR ?_ | refine st_bH ?_ | refine st_bM rfl ?_)
  have nbo : ∀ b' : Bid, b'.1 < h.clk → ¬ b' = (h.clk + 1, 15) := fun b' hb' => ne_fst hb' (by show h.clk ≤ h.clk + 1; omega)
  refine st_loopH (α := Nat × AH) tab mixed [] [] (by repeat (first | exact trivial | refine ⟨rfl, ?_⟩)) [] [] (by repeat (first | exact trivial | refine ⟨rfl, ?_⟩)) (fun a => [(10, .int .i64 (a.1 : Nat))]) [(1, _), (2, _), (3, _), (4, _), (9, _)] (fun _ => []) [] (fun a => a.2) (fun a => a.1 ≤ l.length ∧ a.2.at_ (h.clk + 1, 15) = some ⟨1, nl t.rooms.length fun q => sumF (hdF t (cls c) l step (q : Nat)) a.1⟩ ∧ h.clk + 1 < a.2.clk ∧ (∀ b' : Bid, b'.1 < h.clk → a.2.at_ b' = h.at_ b') ∧ a.2.lp = h.lp) (fun a => l.length - a.1) (by decide) (0, _) (by refine ⟨Nat.zero_le _, by simp only [go_sem, ↓reduceIte]; rfl, by simp only [go_sem]; omega, fun b' hb' => by simp only [go_sem, if_neg (nbo b' hb')], rfl⟩) (by (try simp only [go_sem]); repeat' (first | exact trivial | refine And.intro ?_ ?_ | rfl | (simp (disch := omega) only [go_sem, if_yes, if_no, ↓reduceIte, Nat.reduceAdd, Nat.reduceMul, Nat.reduceEqDiff, Nat.reduceBEq, Nat.reduceLeDiff]; rfl) | (simp (disch := omega) only [go_sem, if_yes, if_no, ↓reduceIte, Nat.reduceAdd, Nat.reduceMul, Nat.reduceEqDiff, Nat.reduceBEq, Nat.reduceLeDiff]))) (by (try simp only [go_sem]); repeat' (first | exact trivial | refine And.intro ?_ ?_ | rfl | (simp (disch := omega) only [go_sem, if_yes, if_no, ↓reduceIte, Nat.reduceAdd, Nat.reduceMul, Nat.reduceEqDiff, Nat.reduceBEq, Nat.reduceLeDiff]; rfl) | (simp (disch := omega) only [go_sem, if_yes, if_no, ↓reduceIte, Nat.reduceAdd, Nat.reduceMul, Nat.reduceEqDiff, Nat.reduceBEq, Nat.reduceLeDiff]))) (HOld.refl _) ?_
  rintro ⟨i, g⟩ d ⟨i1, i2, i3, i4, i5⟩ hd
  dsimp only at i1 i2 i3 i4 i5 hd
  simp only [go_sem]
  by_cases hi : i < l.length
  case pos =>
    have ha := hla i hi
    have k33 := c33 t c i (cm l i).at_ step hT (by omega) hcl hb ⟨ha.1, ha.2.1⟩ hs
    have hpl := plc_lt hT (hT.g i (by omega)) (cls c) (cm l i).at_ step
    have hF : ∀ q : Nat, hdF t (cls c) l step (q : Nat) i = if plc t (cls c) (gp t.gs i) (cm l i).at_ step = (q : Nat) then (cm l i).many else 0 := fun q => rfl
    generalize plc t (cls c) (gp t.gs i) (cm l i).at_ step = p at *
    by_cases hp : p < 0
    · have hst : (nl t.rooms.length fun q => sumF (hdF t (cls c) l step (q : Nat)) i) = nl t.rooms.length fun q => sumF (hdF t (cls c) l step (q : Nat)) (i + 1) :=
        nl_congr fun q hq => by show _ = sumF _ i + hdF t (cls c) l step (q : Nat) i; rw [hF, if_neg (by omega), Int.add_zero]
      repeat' (first | refine st_seq_reg rfl (by first | (simp only [go_sem, List.length_map, Nat.zero_add]; rfl) | rfl) (by first | (simp only [go_sem, List.length_map, Nat.zero_add]; rfl) | rfl) ?_ | refine st_reg rfl (by first | (simp only [go_sem, List.length_map, Nat.zero_add]; rfl) | rfl) (by first | (simp only [go_sem, List.length_map, Nat.zero_add]; rfl) | rfl) ?_ | refine st_seq_draw rfl (by first | (simp only [go_sem, List.length_map, Nat.zero_add]; rfl) | rfl) (by first | (simp only [go_sem, List.length_map, Nat.zero_add]; rfl) | rfl) ?_ | refine st_draw rfl (by first | (simp only [go_sem, List.length_map, Nat.zero_add]; rfl) | rfl) (by first | (simp only [go_sem, List.length_map, Nat.zero_add]; rfl) | rfl) ?_ | refine st_op ?_ | refine st_det rfl (by simp (disch := omega) only [go_sem, wr_i64, if_yes, if_no, ↓reduceIte, Nat.reduceAdd, Nat.reduceMul, Nat.reduceEqDiff, Nat.reduceBEq, Nat.reduceLeDiff, List.length_map, Nat.zero_add]; rfl) ?_ | refine st_dop rfl ?_ | refine st_loc rfl (by simp (disch := omega) only [go_sem, wr_i64, if_yes, if_no, ↓reduceIte, Nat.reduceAdd, Nat.reduceMul, Nat.reduceEqDiff, Nat.reduceBEq, Nat.reduceLeDiff, List.length_map, Nat.zero_add]; rfl) ?_ | refine st_heap rfl (by simp (disch := omega) only [go_sem, wr_i64, if_yes, if_no, ↓reduceIte, Nat.reduceAdd, Nat.reduceMul, Nat.reduceEqDiff, Nat.reduceBEq, Nat.reduceLeDiff, List.length_map, Nat.zero_add]; rfl) ?_ | refine st_store (by simp (disch := omega) only [go_sem, wr_i64, if_yes, if_no, ↓reduceIte, Nat.reduceAdd, Nat.reduceMul, Nat.reduceEqDiff, Nat.reduceBEq, Nat.reduceLeDiff, List.length_map, Nat.zero_add]; rfl) ?_ | (refine st_pureE (by first | (simp (disch := omega) only [go_sem, List.length_map, Nat.zero_add]; rfl) | rfl) rfl (k33) (by first | (simp only [go_sem, List.length_map, Nat.zero_add]; rfl) | rfl) (by intro n; first | (simp (disch := omega) only [go_sem]; rfl) | rfl) ?_; intro n hn) | refine st_condT rfl ?_ | refine st_condF rfl ?_ | (refine st_condS rfl ?_ ?_ <;> intro hg <;> (try simp only [decide_eq_true_eq, decide_eq_false_iff_not, Bool.not_eq_true', Bool.not_eq_false'] at hg)) | refine st_nil ?_ | refine st_dnil ?_ | refine st_tN ?_ | refine st_seq ?_ | refine st_block ?_ | refine st_skip ?_ | refine st_exit ?_ | refine st_ret ?_ | refine st_tE ?_ | refine st_tR ?_ | refine st_bN ?_ | refine st_bR ?_ | refine st_bH ?_ | refine st_bM rfl ?_)
      all_goals try (exfalso; omega)
      refine ⟨(i + 1, _), (by refine ⟨by show i + 1 ≤ _; omega, by simp only [go_sem]; rw [← hst]; exact i2, by simp only [go_sem]; omega, fun b' hb' => i4 b' hb', i5⟩), by show l.length - (i + 1) < l.length - i; omega, (by repeat' (first | exact trivial | refine And.intro ?_ ?_ | rfl | (simp (disch := omega) only [go_sem, if_yes, if_no, ↓reduceIte, Nat.reduceAdd, Nat.reduceMul, Nat.reduceEqDiff, Nat.reduceBEq, Nat.reduceLeDiff]; rfl) | (simp (disch := omega) only [go_sem, if_yes, if_no, ↓reduceIte, Nat.reduceAdd, Nat.reduceMul, Nat.reduceEqDiff, Nat.reduceBEq, Nat.reduceLeDiff]))), (by repeat' (first | exact trivial | refine And.intro ?_ ?_ | rfl | (simp (disch := omega) only [go_sem, if_yes, if_no, ↓reduceIte, Nat.reduceAdd, Nat.reduceMul, Nat.reduceEqDiff, Nat.reduceBEq, Nat.reduceLeDiff]; rfl) | (simp (disch := omega) only [go_sem, if_yes, if_no, ↓reduceIte, Nat.reduceAdd, Nat.reduceMul, Nat.reduceEqDiff, Nat.reduceBEq, Nat.reduceLeDiff]))), rfl, HOld.refl _⟩
    obtain ⟨p, rfl⟩ : ∃ m : Nat, p = m := ⟨p.toNat, by omega⟩
    have hpR : p < t.rooms.length := by omega
    have hsb := sumF_bd0 (F := hdF t (cls c) l step (p : Nat)) (n := l.length) (B := 1000000) (fun j hj => by
      have a := hla j hj
      unfold hdF; split <;> omega) i (by omega)
    have hsb2 : (i : Int) * 1000000 ≤ 12000000 := by omega
    have hst : (nl t.rooms.length fun q => sumF (hdF t (cls c) l step (q : Nat)) i).set p [.int .i64 (sumF (hdF t (cls c) l step (p : Nat)) i + (cm l i).many)] = nl t.rooms.length fun q => sumF (hdF t (cls c) l step (q : Nat)) (i + 1) := by
      rw [nl_set hpR]
      refine nl_congr fun q hq => ?_
      show _ = sumF _ i + hdF t (cls c) l step (q : Nat) i
      rw [hF]
      by_cases e : q = p
      · rw [if_pos e, if_pos (by omega), e]
      · rw [if_neg e, if_neg (by omega), Int.add_zero]
    repeat' (first | refine st_seq_reg rfl (by first | (simp only [go_sem, List.length_map, i2, nl_get, nl_len, Nat.zero_add, hst]; rfl) | rfl) (by first | (simp only [go_sem, List.length_map, i2, nl_get, nl_len, Nat.zero_add, hst]; rfl) | rfl) ?_ | refine st_reg rfl (by first | (simp only [go_sem, List.length_map, i2, nl_get, nl_len, Nat.zero_add, hst]; rfl) | rfl) (by first | (simp only [go_sem, List.length_map, i2, nl_get, nl_len, Nat.zero_add, hst]; rfl) | rfl) ?_ | refine st_seq_draw rfl (by first | (simp only [go_sem, List.length_map, i2, nl_get, nl_len, Nat.zero_add, hst]; rfl) | rfl) (by first | (simp only [go_sem, List.length_map, i2, nl_get, nl_len, Nat.zero_add, hst]; rfl) | rfl) ?_ | refine st_draw rfl (by first | (simp only [go_sem, List.length_map, i2, nl_get, nl_len, Nat.zero_add, hst]; rfl) | rfl) (by first | (simp only [go_sem, List.length_map, i2, nl_get, nl_len, Nat.zero_add, hst]; rfl) | rfl) ?_ | refine st_op ?_ | refine st_det rfl (by simp (disch := omega) only [go_sem, wr_i64, if_yes, if_no, ↓reduceIte, Nat.reduceAdd, Nat.reduceMul, Nat.reduceEqDiff, Nat.reduceBEq, Nat.reduceLeDiff, List.length_map, i2, nl_get, nl_len, Nat.zero_add, hst]; rfl) ?_ | refine st_dop rfl ?_ | refine st_loc rfl (by simp (disch := omega) only [go_sem, wr_i64, if_yes, if_no, ↓reduceIte, Nat.reduceAdd, Nat.reduceMul, Nat.reduceEqDiff, Nat.reduceBEq, Nat.reduceLeDiff, List.length_map, i2, nl_get, nl_len, Nat.zero_add, hst]; rfl) ?_ | refine st_heap rfl (by simp (disch := omega) only [go_sem, wr_i64, if_yes, if_no, ↓reduceIte, Nat.reduceAdd, Nat.reduceMul, Nat.reduceEqDiff, Nat.reduceBEq, Nat.reduceLeDiff, List.length_map, i2, nl_get, nl_len, Nat.zero_add, hst]; rfl) ?_ | refine st_store (by simp (disch := omega) only [go_sem, wr_i64, if_yes, if_no, ↓reduceIte, Nat.reduceAdd, Nat.reduceMul, Nat.reduceEqDiff, Nat.reduceBEq, Nat.reduceLeDiff, List.length_map, i2, nl_get, nl_len, Nat.zero_add, hst]; rfl) ?_ | (refine st_pureE (by first | (simp (disch := omega) only [go_sem, List.length_map, i2, nl_get, nl_len, Nat.zero_add, hst]; rfl) | rfl) rfl (k33) (by first | (simp only [go_sem, List.length_map, i2, nl_get, nl_len, Nat.zero_add, hst]; rfl) | rfl) (by intro n; first | (simp (disch := omega) only [go_sem]; rfl) | rfl) ?_; intro n hn) | refine st_condT rfl ?_ | refine st_condF rfl ?_ | (refine st_condS rfl ?_ ?_ <;> intro hg <;> (try simp only [decide_eq_true_eq, decide_eq_false_iff_not, Bool.not_eq_true', Bool.not_eq_false'] at hg)) | refine st_nil ?_ | refine st_dnil ?_ | refine st_tN ?_ | refine st_seq ?_ | refine st_block ?_ | refine st_skip ?_ | refine st_exit ?_ | refine st_ret ?_ | refine st_tE ?_ | refine st_tR ?_ | refine st_bN ?_ | refine st_bR ?_ | refine st_bH ?_ | refine st_bM rfl ?_)
    all_goals try (exfalso; omega)
    refine ⟨(i + 1, _), (by refine ⟨by show i + 1 ≤ _; omega, by simp only [go_sem, ↓reduceIte], by simp only [go_sem]; omega, fun b' hb' => by simp only [go_sem, if_neg (nbo b' hb')]; exact i4 b' hb', i5⟩), by show l.length - (i + 1) < l.length - i; omega, (by repeat' (first | exact trivial | refine And.intro ?_ ?_ | rfl | (simp (disch := omega) only [go_sem, if_yes, if_no, ↓reduceIte, Nat.reduceAdd, Nat.reduceMul, Nat.reduceEqDiff, Nat.reduceBEq, Nat.reduceLeDiff]; rfl) | (simp (disch := omega) only [go_sem, if_yes, if_no, ↓reduceIte, Nat.reduceAdd, Nat.reduceMul, Nat.reduceEqDiff, Nat.reduceBEq, Nat.reduceLeDiff]))), (by repeat' (first | exact trivial | refine And.intro ?_ ?_ | rfl | (simp (disch := omega) only [go_sem, if_yes, if_no, ↓reduceIte, Nat.reduceAdd, Nat.reduceMul, Nat.reduceEqDiff, Nat.reduceBEq, Nat.reduceLeDiff]; rfl) | (simp (disch := omega) only [go_sem, if_yes, if_no, ↓reduceIte, Nat.reduceAdd, Nat.reduceMul, Nat.reduceEqDiff, Nat.reduceBEq, Nat.reduceLeDiff]))), rfl, HOld.refl _⟩
  obtain rfl : i = l.length := by omega
  repeat' (first | refine st_seq_reg rfl (by first | (simp only [go_sem, List.length_map]; rfl) | rfl) (by first | (simp only [go_sem, List.length_map]; rfl) | rfl) ?_ | refine st_reg rfl (by first | (simp only [go_sem, List.length_map]; rfl) | rfl) (by first | (simp only [go_sem, List.length_map]; rfl) | rfl) ?_ | refine st_seq_draw rfl (by first | (simp only [go_sem, List.length_map]; rfl) | rfl) (by first | (simp only [go_sem, List.length_map]; rfl) | rfl) ?_ | refine st_draw rfl (by first | (simp only [go_sem, List.length_map]; rfl) | rfl) (by first | (simp only [go_sem, List.length_map]; rfl) | rfl) ?_ | refine st_op ?_ | refine st_det rfl (by simp (disch := omega) only [go_sem, wr_i64, if_yes, if_no, ↓reduceIte, Nat.reduceAdd, Nat.reduceMul, Nat.reduceEqDiff, Nat.reduceBEq, Nat.reduceLeDiff, List.length_map]; rfl) ?_ | refine st_dop rfl ?_ | refine st_loc rfl (by simp (disch := omega) only [go_sem, wr_i64, if_yes, if_no, ↓reduceIte, Nat.reduceAdd, Nat.reduceMul, Nat.reduceEqDiff, Nat.reduceBEq, Nat.reduceLeDiff, List.length_map]; rfl) ?_ | refine st_heap rfl (by simp (disch := omega) only [go_sem, wr_i64, if_yes, if_no, ↓reduceIte, Nat.reduceAdd, Nat.reduceMul, Nat.reduceEqDiff, Nat.reduceBEq, Nat.reduceLeDiff, List.length_map]; rfl) ?_ | refine st_store (by simp (disch := omega) only [go_sem, wr_i64, if_yes, if_no, ↓reduceIte, Nat.reduceAdd, Nat.reduceMul, Nat.reduceEqDiff, Nat.reduceBEq, Nat.reduceLeDiff, List.length_map]; rfl) ?_ | refine st_condT rfl ?_ | refine st_condF rfl ?_ | (refine st_condS rfl ?_ ?_ <;> intro hg <;> (try simp only [decide_eq_true_eq, decide_eq_false_iff_not, Bool.not_eq_true', Bool.not_eq_false'] at hg)) | refine st_nil ?_ | refine st_dnil ?_ | refine st_tN ?_ | refine st_seq ?_ | refine st_block ?_ | refine st_skip ?_ | refine st_exit ?_ | refine st_ret ?_ | refine st_tE ?_ | refine st_tR ?_ | refine st_bN ?_ | refine st_bR ?_ | refine st_bH ?_ | refine st_bM rfl ?_)
  all_goals try (exfalso; omega)
  simp (disch := omega) only [AEnd, Try.results35, aresK, fin, go_sem, ↓reduceIte, Nat.reduceEqDiff, Nat.reduceAdd, Nat.reduceLeDiff, if_yes, if_no, implies_true, true_and, and_true, List.reverse_cons, List.reverse_nil]
  refine ⟨i4, i5, .inr ⟨(h.clk + 1, 15), _, by show h.clk ≤ h.clk + 1; omega, i2, ?_⟩⟩
  simp only [frz]
  rw [if_pos ⟨trivial, by rw [nl_len]; omega⟩, List.drop_zero, List.take_of_length_le (by rw [nl_len]; exact Nat.le_refl _)]
end Go.Proofs.Ythjbfdfhblloiaa
