/- Contracts of functions that the claim reaches: what each call gives, told in our own logic. Conditions: those of each theorem. -/
import Derived.Test.YtkjpceapflhmnaaF23
import Derived.Test.YtkjpceapflhmnaaF9c
set_option linter.all false
set_option linter.unusedSimpArgs false
set_option linter.unusedVariables false
namespace Go.Proofs.Ytkjpceapflhmnaa
open Go.Av
attribute [local irreducible] thenA blockA awp awpOps awpD awp1
set_option maxHeartbeats 8000000
set_option maxRecDepth 20000
theorem c16c (b : Nat × Nat) (x y z : Int) : Drum Try.prog 16 [.ptr b 0 0, .lst 1 [[.int .i64 x], [.int .i64 y], [.int .i64 z]]] b (fun v => ∃ r, v = .int .i64 r ∧ (r = x ∨ r = y ∨ r = z)) := by
  have h := c16 b [x, y, z] (by simp) (by simp)
  simpa [iv] using h
theorem c16d (b : Nat × Nat) (x y z u : Int) : Drum Try.prog 16 [.ptr b 0 0, .lst 1 [[.int .i64 x], [.int .i64 y], [.int .i64 z], [.int .i64 u]]] b (fun v => ∃ r, v = .int .i64 r ∧ (r = x ∨ r = y ∨ r = z ∨ r = u)) := by
  have h := c16 b [x, y, z, u] (by simp) (by simp)
  simpa [iv] using h
theorem wg_bd {f : Fl} {n : Int} {arm : Int → Int} {s A : Int} (hf : FlGood f n) (hA : 0 ≤ A) (hb : ∀ a, f.front ≤ a → a ≤ f.rear → 0 ≤ arm a ∧ arm a ≤ A) : ∀ i, i ≤ f.loads.length →
    (s ≤ wl arm s (f.loads.take i) ∧ wl arm s (f.loads.take i) ≤ s + 900 * A * i) ∧ (s ≤ wh arm s (f.loads.take i) ∧ wh arm s (f.loads.take i) ≤ s + 900 * A * i) := by
  intro i
  induction i with
  | zero => intro _; simp [wl, wh]
  | succ i ih =>
    intro hi
    have h0 := ih (by omega)
    rw [wl_step (by omega), wh_step (by omega)]
    have hx := hf.loads _ (ld_mem (l := f.loads) (i := i) (by omega))
    have h1 := hx.at_; have h2 := hx.kilos
    have h3 := hb _ h1.1 h1.2
    have m1 := Int.mul_le_mul (a := (ld f.loads i).lo) (c := 900) (b := arm (ld f.loads i).at_) (d := A) (by omega) h3.2 h3.1 (by omega)
    have m2 := Int.mul_le_mul (a := (ld f.loads i).hi) (c := 900) (b := arm (ld f.loads i).at_) (d := A) (by omega) h3.2 h3.1 (by omega)
    have m3 := Int.mul_nonneg (a := (ld f.loads i).lo) (b := arm (ld f.loads i).at_) (by omega) h3.1
    have m4 := Int.mul_nonneg (a := (ld f.loads i).hi) (b := arm (ld f.loads i).at_) (by omega) h3.1
    have e : 900 * A * ((i + 1 : Nat) : Int) = 900 * A * i + 900 * A := by
      rw [Int.natCast_add, Int.mul_add]; simp
    rw [e]
    omega
theorem tall_bd {f : Fl} {n : Int} (hf : FlGood f n) : ∀ i, i ≤ f.loads.length → (0 ≤ tl f.high (f.loads.take i) ∧ tl f.high (f.loads.take i) ≤ 700) ∧ (0 ≤ th f.high (f.loads.take i) ∧ th f.high (f.loads.take i) ≤ 700) := by
  have hh := hf.high
  intro i
  induction i with
  | zero => intro _; simp [tl, th]; omega
  | succ i ih =>
    intro hi
    have h0 := ih (by omega)
    rw [tl_step (by omega), th_step (by omega)]
    have hx := (hf.loads _ (ld_mem (l := f.loads) (i := i) (by omega))).top
    omega
theorem dn_bd {n d : Int} {K : Nat} (hd : 1 ≤ d) (h1 : -((K : Int) * d) ≤ n ∧ n ≤ (K : Int) * d) : -((K : Int) + 1) ≤ dnI n d ∧ dnI n d ≤ (K : Int) + 1 ∧ -((K : Int) + 1) ≤ uI n d ∧ uI n d ≤ (K : Int) + 1 := by
  have aux : ∀ m : Int, -((K : Int) * d) ≤ m ∧ m ≤ (K : Int) * d → -(K : Int) ≤ m.tdiv d ∧ m.tdiv d ≤ K := by
    intro m hm
    have h : (m.tdiv d).natAbs = m.natAbs / d.natAbs := Int.natAbs_tdiv m d
    have hdn : (d.natAbs : Int) = d := by omega
    have hle : m.natAbs ≤ d.natAbs * K := by
      have : (m.natAbs : Int) ≤ ((d.natAbs * K : Nat) : Int) := by
        rw [Int.natCast_mul, hdn, Int.mul_comm]; omega
      exact Int.ofNat_le.1 this
    have h2 : m.natAbs / d.natAbs ≤ K := Nat.div_le_of_le_mul hle
    omega
  have a1 := aux n h1
  have a2 := aux (-n) (by omega)
  unfold uI dnI
  split <;> split <;> omega
/-- What is sure of a float that is made of numbers. -/
structure RtBd (f : Fl) : Prop where
  tot : (0 ≤ wl oneA f.kilos f.loads ∧ wl oneA f.kilos f.loads ≤ 1000000) ∧ (0 ≤ wh oneA f.kilos f.loads ∧ wh oneA f.kilos f.loads ≤ 1000000)
  hig : (0 ≤ tl f.high f.loads ∧ tl f.high f.loads ≤ 700) ∧ (0 ≤ th f.high f.loads ∧ th f.high f.loads ≤ 700)
  rear : (-7000000 ≤ dnI (wl (rearA f) (f.kilos * (f.mid - f.front)) f.loads) (f.rear - f.front) ∧ dnI (wl (rearA f) (f.kilos * (f.mid - f.front)) f.loads) (f.rear - f.front) ≤ 7000000) ∧
    (-7000000 ≤ uI (wh (rearA f) (f.kilos * (f.mid - f.front)) f.loads) (f.rear - f.front) ∧ uI (wh (rearA f) (f.kilos * (f.mid - f.front)) f.loads) (f.rear - f.front) ≤ 7000000)
theorem rtBd {f : Fl} {n : Int} (hf : FlGood f n) (hn : n ≤ 20) : RtBd f := by
  have h1 := hf.len; have h2 := hf.axles; have h3 := hf.kilos; have h4 := hf.mid; have h5 := hf.many
  have t1 := wg_bd (arm := oneA) (s := f.kilos) (A := 1) hf (by omega) (by intros; unfold oneA; omega) f.loads.length (Nat.le_refl _)
  have t2 := wg_bd (arm := rearA f) (s := f.kilos * (f.mid - f.front)) (A := f.rear - f.front) hf (by omega) (by intros; unfold rearA; omega) f.loads.length (Nat.le_refl _)
  have t3 := tall_bd hf f.loads.length (Nat.le_refl _)
  rw [List.take_length] at t1 t2 t3
  have m1 := mul_bd (K := 5000) (A := 1200) (k := f.kilos) (x := f.mid - f.front) (by omega) (by omega)
  have hd : 1 ≤ f.rear - f.front := by omega
  have m2 : 900 * (f.rear - f.front) * (f.loads.length : Int) ≤ 900 * (f.rear - f.front) * 20 := Int.mul_le_mul_of_nonneg_left (by omega) (by omega)
  have m3 : (6018000 : Int) * 1 ≤ 6018000 * (f.rear - f.front) := Int.mul_le_mul_of_nonneg_left hd (by omega)
  have b1 := dn_bd (K := 6018000) (n := wl (rearA f) (f.kilos * (f.mid - f.front)) f.loads) hd (by constructor <;> omega)
  have b2 := dn_bd (K := 6018000) (n := wh (rearA f) (f.kilos * (f.mid - f.front)) f.loads) hd (by constructor <;> omega)
  exact ⟨⟨by omega, by omega⟩, t3, ⟨by omega, by omega⟩⟩
/-- What the loop over hurdles keeps. -/
structure RS where
  i : Int
  x : Int
  t : Nat
  bb : Nat × Nat
  ls : List Hu
def RS.sl (a : RS) : AV := if a.ls = [] then .nils else .slc a.bb 3 0 a.ls.length
def RS.hp (h : AH) (b : Nat × Nat) (a : RS) : AH := if a.ls = [] then (h.tick a.t).put b (dr a.x) else ((h.tick a.t).put a.bb (some ⟨3, a.ls.map Hu.row⟩)).put b (dr a.x)
@[go_sem] theorem RS.sl_nil (i x : Int) (t : Nat) (bb : Nat × Nat) : RS.sl ⟨i, x, t, bb, []⟩ = .nils := rfl
@[go_sem] theorem RS.sl_app (i x : Int) (t : Nat) (bb : Nat × Nat) (l : List Hu) (y : Hu) : RS.sl ⟨i, x, t, bb, l ++ [y]⟩ = .slc bb 3 0 (l.length + 1) := by simp [RS.sl]
@[go_sem] theorem RS.sl_one (i x : Int) (t : Nat) (bb : Nat × Nat) (y : Hu) : RS.sl ⟨i, x, t, bb, [y]⟩ = .slc bb 3 0 1 := by simp [RS.sl]
theorem hold1r {h : AH} {m m' : Nat} {id b : Nat × Nat} {k d : Option Blk} (hn : m ≤ m') (hne : ¬ id = b) : HOld (((h.tick m).put id k).put b d) (((h.tick m').put b d).put id k) := hold1 hn hne
theorem c47g (f : Fl) (n : Int) (hf : FlGood f n) (hn : n ≤ 20) : Pure Try.prog 47 [f.av] (fun v => v = .tup [.agg [.int .i64 (wl oneA f.kilos f.loads), .int .i64 (wh oneA f.kilos f.loads)], .int .i64 0]) := by
  have h := c47 f
  unfold totV at h
  rw [if_neg (by rw [chkGood hf hn]; decide)] at h; exact h
theorem c49g (f : Fl) (n : Int) (hf : FlGood f n) (hn : n ≤ 20) : Pure Try.prog 49 [f.av] (fun v => v = .tup [.agg [.int .i64 (tl f.high f.loads), .int .i64 (th f.high f.loads)], .int .i64 0]) := by
  have h := c49 f
  unfold higV at h
  rw [if_neg (by rw [chkGood hf hn]; decide)] at h; exact h
theorem c48g (f : Fl) (n : Int) (hf : FlGood f n) (hn : n ≤ 20) : Pure Try.prog 48 [f.av] (fun v => v =
  .tup [.agg [.int .i64 (dnI (wl (frontA f) (f.kilos * (f.rear - f.mid)) f.loads) (f.rear - f.front)), .int .i64 (uI (wh (frontA f) (f.kilos * (f.rear - f.mid)) f.loads) (f.rear - f.front))],
    .agg [.int .i64 (dnI (wl (rearA f) (f.kilos * (f.mid - f.front)) f.loads) (f.rear - f.front)), .int .i64 (uI (wh (rearA f) (f.kilos * (f.mid - f.front)) f.loads) (f.rear - f.front))], .int .i64 0]) := by
  have h := c48 f
  unfold raxV at h
  rw [if_neg (by rw [chkGood hf hn]; decide)] at h; exact h
theorem c22 (b : Nat × Nat) (f : Fl) (n N : Int) (hf : FlGood f n) (hn : n ≤ 20) (hN : 0 ≤ N ∧ N ≤ 20) : Drum Try.prog 22 [.ptr b 0 0, f.av, .int .i64 N] b (fun v => ∃ r : List Hu, v = .lst 3 (r.map Hu.row) ∧ (r.length : Int) ≤ N ∧ ∀ x ∈ r, hurdleE x = 0) := by
  obtain ⟨⟨q1, q2⟩, ⟨q3, q4⟩, ⟨q5, q6⟩⟩ := rtBd hf hn
  have k1 := c47g f n hf hn
  have k2 := c48g f n hf hn
  have k3 := c49g f n hf hn
  generalize wl oneA f.kilos f.loads = t0 at *
  generalize wh oneA f.kilos f.loads = t1 at *
  generalize tl f.high f.loads = h0 at *
  generalize th f.high f.loads = h1 at *
  generalize dnI (wl (rearA f) (f.kilos * (f.mid - f.front)) f.loads) (f.rear - f.front) = r0 at *
  generalize uI (wh (rearA f) (f.kilos * (f.mid - f.front)) f.loads) (f.rear - f.front) = r1 at *
  generalize dnI (wl (frontA f) (f.kilos * (f.rear - f.mid)) f.loads) (f.rear - f.front) = f0 at *
  generalize uI (wh (frontA f) (f.kilos * (f.rear - f.mid)) f.loads) (f.rear - f.front) = f1 at *
  refine Drum.give Try.call22 fun h x hx hu hold => ACalls.old Try.call22 fun hall => ?_
  have hb1 : ∀ z t, h.clk ≤ z → ¬ ((z, t) : Nat × Nat) = b := fun z t hz e => by rw [← e] at hold; exact absurd hold (by show ¬ z < h.clk; omega)
  have hb2 : ∀ z t, h.clk ≤ z → ¬ b = ((z, t) : Nat × Nat) := fun z t hz e => hb1 z t hz e.symm
  refine ACalls.of tab mixed Try.call22 Try.func22 rfl (fi := ⟨103, [7, 9, 10, 12, 16], [4, 50, 61, 64, 74, 81, 92, 100], none, [(13, [0, 1, 0, 0, 0, 24, 60, 127, 255, 511], [(0, false), (1, true), (2, false), (3, false), (4, false), (5, false), (6, false), (7, false), (8, false), (9, false)]), (10, [0, 0, 3, 0, 0, 31, 63, 127, 0, 0, 512, 0, 0, 6207, 0, 0, 63551, 129087, 261695, 524095, 1048383, 255, 3145727, 8388607, 16777215], [(0, false), (1, true), (3, false), (4, false), (8, false), (9, false), (10, true), (11, false), (12, true), (14, false), (15, false), (2, false), (5, false), (6, false), (7, false), (21, false), (13, false), (16, false), (17, false), (18, false), (19, false), (20, false), (22, false), (23, false), (24, false)])]⟩) rfl rfl (Nat.le_of_ble_eq_true rfl) (by decide) ?_
  unfold startA
  simp only [go_sem]
  repeat' (first
      | refine st_seq_reg rfl (by first | (simp only [go_sem, hx]; rfl) | rfl) (by first | (simp only [go_sem, hx]; rfl) | rfl) ?_
      | refine st_reg rfl (by first | (simp only [go_sem, hx]; rfl) | rfl) (by first | (simp only [go_sem, hx]; rfl) | rfl) ?_
      | refine st_seq_draw rfl (by first | (simp only [go_sem, hx]; rfl) | rfl) (by first | (simp only [go_sem, hx]; rfl) | rfl) ?_
      | refine st_draw rfl (by first | (simp only [go_sem, hx]; rfl) | rfl) (by first | (simp only [go_sem, hx]; rfl) | rfl) ?_
      | refine st_op ?_
      | refine st_det rfl (by simp (disch := omega) only [go_sem, wr_i64, if_yes, if_no, ↓reduceIte, Nat.reduceAdd, Nat.reduceMul, Nat.reduceEqDiff, Nat.reduceBEq, Nat.reduceLeDiff, hx]; rfl) ?_
      | refine st_dop rfl ?_
      | refine st_loc rfl (by simp (disch := omega) only [go_sem, wr_i64, if_yes, if_no, ↓reduceIte, Nat.reduceAdd, Nat.reduceMul, Nat.reduceEqDiff, Nat.reduceBEq, Nat.reduceLeDiff, hx]; rfl) ?_
      | refine st_heap rfl (by simp (disch := omega) only [go_sem, wr_i64, if_yes, if_no, ↓reduceIte, Nat.reduceAdd, Nat.reduceMul, Nat.reduceEqDiff, Nat.reduceBEq, Nat.reduceLeDiff, hx]; rfl) ?_
      | refine st_store (by simp (disch := omega) only [go_sem, wr_i64, if_yes, if_no, ↓reduceIte, Nat.reduceAdd, Nat.reduceMul, Nat.reduceEqDiff, Nat.reduceBEq, Nat.reduceLeDiff, hx]; rfl) ?_
      | refine st_append (by simp (disch := omega) only [go_sem, wr_i64, if_yes, if_no, ↓reduceIte, Nat.reduceAdd, Nat.reduceMul, Nat.reduceEqDiff, Nat.reduceBEq, Nat.reduceLeDiff, hx]; rfl) ?_
      | (refine st_pureE (by first | (simp (disch := omega) only [go_sem, hx]; rfl) | rfl) rfl (k1) (by first | (simp only [go_sem, hx]; rfl) | rfl) (by intro n; simp (disch := omega) only [go_sem]; rfl) ?_; intro n hn)
      | (refine st_pureE (by first | (simp (disch := omega) only [go_sem, hx]; rfl) | rfl) rfl (k2) (by first | (simp only [go_sem, hx]; rfl) | rfl) (by intro n; simp (disch := omega) only [go_sem]; rfl) ?_; intro n hn)
      | (refine st_pureE (by first | (simp (disch := omega) only [go_sem, hx]; rfl) | rfl) rfl (k3) (by first | (simp only [go_sem, hx]; rfl) | rfl) (by intro n; simp (disch := omega) only [go_sem]; rfl) ?_; intro n hn)
      | (refine st_drum (by first | (simp (disch := omega) only [go_sem, hx]; rfl) | rfl) rfl (c17' b _ (by omega)) (by first | (simp (disch := omega) only [go_sem, hx]; rfl) | rfl) (by assumption) (by first | (simp only [go_sem, hx]; rfl) | rfl) (by intro x' n; simp (disch := omega) only [go_sem]; rfl) ?_; rintro v x' n hu' ⟨r, rfl, hr⟩ hn)
      | refine st_gT rfl rfl rfl ?_
      | refine st_gF rfl rfl rfl ?_
      | refine st_dgT rfl rfl rfl rfl ?_
      | refine st_dgF rfl rfl rfl ?_
      | (refine st_gS rfl rfl ?_ ?_ <;> intro hg <;> (try simp only [decide_eq_true_eq, decide_eq_false_iff_not, Bool.not_eq_true', Bool.not_eq_false'] at hg))
      | (refine st_dgS rfl rfl ?_ ?_ <;> intro hg <;> (try simp only [decide_eq_true_eq, decide_eq_false_iff_not, Bool.not_eq_true', Bool.not_eq_false'] at hg))
      | refine st_condT rfl ?_
      | refine st_condF rfl ?_
      | (refine st_condS rfl ?_ ?_ <;> intro hg <;> (try simp only [decide_eq_true_eq, decide_eq_false_iff_not, Bool.not_eq_true', Bool.not_eq_false'] at hg))
      | refine st_nil ?_
      | refine st_dnil ?_
      | refine st_tN ?_
      | refine st_seq ?_
      | refine st_block ?_
      | refine st_skip ?_
      | refine st_exit ?_
      | refine st_ret ?_
      | refine st_tE ?_
      | refine st_tR ?_
      | refine st_bN ?_
      | refine st_bR ?_
      | refine st_bH ?_
      | refine st_bM rfl ?_)
  refine st_loopH (α := RS) tab mixed [] [] (by repeat (first | exact trivial | refine ⟨rfl, ?_⟩)) [7, 10, 12] [_, _, _] (by repeat (first | exact trivial | refine ⟨rfl, ?_⟩)) (fun a => [(15, .int .i64 a.i), (14, a.sl)]) [(0, _), (6, _), (7, _), (10, _), (12, _)] (fun _ => []) [_, _, _] (RS.hp h b) (fun a => 0 ≤ a.i ∧ a.ls.length + a.i ≤ N ∧ n ≤ a.t ∧ isU64 a.x ∧ (∀ y ∈ a.ls, hurdleE y = 0) ∧ (a.ls ≠ [] → h.clk ≤ a.bb.1 ∧ a.bb.1 < a.t)) (fun a => a.i.toNat) (by decide) ⟨r, x', n, (0, 0), []⟩ ⟨hr.1, by simp; omega, Nat.le_refl _, hu', by simp, by simp⟩ (by (try simp only [go_sem]); repeat' (first | exact trivial | refine And.intro ?_ ?_ | rfl | (simp (disch := omega) only [go_sem, if_yes, if_no, ↓reduceIte, Nat.reduceAdd, Nat.reduceMul, Nat.reduceEqDiff, Nat.reduceBEq, Nat.reduceLeDiff]; rfl) | (simp (disch := omega) only [go_sem, if_yes, if_no, ↓reduceIte, Nat.reduceAdd, Nat.reduceMul, Nat.reduceEqDiff, Nat.reduceBEq, Nat.reduceLeDiff]))) (by (try simp only [go_sem]); repeat' (first | exact trivial | refine And.intro ?_ ?_ | rfl | (simp (disch := omega) only [go_sem, if_yes, if_no, ↓reduceIte, Nat.reduceAdd, Nat.reduceMul, Nat.reduceEqDiff, Nat.reduceBEq, Nat.reduceLeDiff]; rfl) | (simp (disch := omega) only [go_sem, if_yes, if_no, ↓reduceIte, Nat.reduceAdd, Nat.reduceMul, Nat.reduceEqDiff, Nat.reduceBEq, Nat.reduceLeDiff]))) (HOld.refl _) ?_
  rintro a c ⟨i1, i2, i3, i4, i5, i6⟩ hc
  by_cases e : a.ls = []
  · have e1 : a.sl = .nils := if_pos e
    have e2 : a.hp h b = (h.tick a.t).put b (dr a.x) := if_pos e
    rw [e2] at hc
    simp only [go_sem] at hc
    simp only [e1, e2, go_sem]
    repeat' (first
        | refine st_seq_reg rfl (by first | (simp only [go_sem, big]; rfl) | rfl) (by first | (simp only [go_sem, big]; rfl) | rfl) ?_
        | refine st_reg rfl (by first | (simp only [go_sem, big]; rfl) | rfl) (by first | (simp only [go_sem, big]; rfl) | rfl) ?_
        | refine st_seq_draw rfl (by first | (simp only [go_sem, big]; rfl) | rfl) (by first | (simp only [go_sem, big]; rfl) | rfl) ?_
        | refine st_draw rfl (by first | (simp only [go_sem, big]; rfl) | rfl) (by first | (simp only [go_sem, big]; rfl) | rfl) ?_
        | refine st_op ?_
        | refine st_det rfl (by simp (disch := omega) only [go_sem, wr_i64, if_yes, if_no, ↓reduceIte, Nat.reduceAdd, Nat.reduceMul, Nat.reduceEqDiff, Nat.reduceBEq, Nat.reduceLeDiff, big]; rfl) ?_
        | refine st_dop rfl ?_
        | refine st_loc rfl (by simp (disch := omega) only [go_sem, wr_i64, if_yes, if_no, ↓reduceIte, Nat.reduceAdd, Nat.reduceMul, Nat.reduceEqDiff, Nat.reduceBEq, Nat.reduceLeDiff, big]; rfl) ?_
        | refine st_heap rfl (by simp (disch := omega) only [go_sem, wr_i64, if_yes, if_no, ↓reduceIte, Nat.reduceAdd, Nat.reduceMul, Nat.reduceEqDiff, Nat.reduceBEq, Nat.reduceLeDiff, big]; rfl) ?_
        | refine st_store (by simp (disch := omega) only [go_sem, wr_i64, if_yes, if_no, ↓reduceIte, Nat.reduceAdd, Nat.reduceMul, Nat.reduceEqDiff, Nat.reduceBEq, Nat.reduceLeDiff, big]; rfl) ?_
        | refine st_append (by simp (disch := omega) only [go_sem, wr_i64, if_yes, if_no, ↓reduceIte, Nat.reduceAdd, Nat.reduceMul, Nat.reduceEqDiff, Nat.reduceBEq, Nat.reduceLeDiff, big]; rfl) ?_
        | (refine st_drum (by first | (simp (disch := omega) only [go_sem, big]; rfl) | rfl) rfl (c16b b _ _) (by first | (simp (disch := omega) only [go_sem, big]; rfl) | rfl) (by assumption) (by first | (simp only [go_sem, big]; rfl) | rfl) (by intro x' n; simp (disch := omega) only [go_sem]; rfl) ?_; rintro v x' n hu' ⟨r, rfl, hr⟩ hn)
        | (refine st_drum (by first | (simp (disch := omega) only [go_sem, big]; rfl) | rfl) rfl (c16c b _ _ _) (by first | (simp (disch := omega) only [go_sem, big]; rfl) | rfl) (by assumption) (by first | (simp only [go_sem, big]; rfl) | rfl) (by intro x' n; simp (disch := omega) only [go_sem]; rfl) ?_; rintro v x' n hu' ⟨r, rfl, hr⟩ hn)
        | (refine st_drum (by first | (simp (disch := omega) only [go_sem, big]; rfl) | rfl) rfl (c16d b _ _ _ _) (by first | (simp (disch := omega) only [go_sem, big]; rfl) | rfl) (by assumption) (by first | (simp only [go_sem, big]; rfl) | rfl) (by intro x' n; simp (disch := omega) only [go_sem]; rfl) ?_; rintro v x' n hu' ⟨r, rfl, hr⟩ hn)
        | (refine st_drum (by first | (simp (disch := omega) only [go_sem, big]; rfl) | rfl) rfl (c17' b _ (by omega)) (by first | (simp (disch := omega) only [go_sem, big]; rfl) | rfl) (by assumption) (by first | (simp only [go_sem, big]; rfl) | rfl) (by intro x' n; simp (disch := omega) only [go_sem]; rfl) ?_; rintro v x' n hu' ⟨r, rfl, hr⟩ hn)
        | (refine st_drum (by first | (simp (disch := omega) only [go_sem, big]; rfl) | rfl) rfl (c18' b _ _ (by omega) (by omega)) (by first | (simp (disch := omega) only [go_sem, big]; rfl) | rfl) (by assumption) (by first | (simp only [go_sem, big]; rfl) | rfl) (by intro x' n; simp (disch := omega) only [go_sem]; rfl) ?_; rintro v x' n hu' ⟨r, rfl, hr⟩ hn)
        | (refine st_drum (by first | (simp (disch := omega) only [go_sem, big]; rfl) | rfl) rfl (c42 b _ _ (by omega) (by omega)) (by first | (simp (disch := omega) only [go_sem, big]; rfl) | rfl) (by assumption) (by first | (simp only [go_sem, big]; rfl) | rfl) (by intro x' n; simp (disch := omega) only [go_sem]; rfl) ?_; rintro v x' n hu' ⟨r, rfl, hr⟩ hn)
        | refine st_gT rfl rfl rfl ?_
        | refine st_gF rfl rfl rfl ?_
        | refine st_dgT rfl rfl rfl rfl ?_
        | refine st_dgF rfl rfl rfl ?_
        | (refine st_gS rfl rfl ?_ ?_ <;> intro hg <;> (try simp only [decide_eq_true_eq, decide_eq_false_iff_not, Bool.not_eq_true', Bool.not_eq_false'] at hg))
        | (refine st_dgS rfl rfl ?_ ?_ <;> intro hg <;> (try simp only [decide_eq_true_eq, decide_eq_false_iff_not, Bool.not_eq_true', Bool.not_eq_false'] at hg))
        | refine st_condT rfl ?_
        | refine st_condF rfl ?_
        | (refine st_condS rfl ?_ ?_ <;> intro hg <;> (try simp only [decide_eq_true_eq, decide_eq_false_iff_not, Bool.not_eq_true', Bool.not_eq_false'] at hg))
        | refine st_nil ?_
        | refine st_dnil ?_
        | refine st_tN ?_
        | refine st_seq ?_
        | refine st_block ?_
        | refine st_skip ?_
        | refine st_exit ?_
        | refine st_ret ?_
        | refine st_tE ?_
        | refine st_tR ?_
        | refine st_bN ?_
        | refine st_bR ?_
        | refine st_bH ?_
        | refine st_bM rfl ?_)
    · rename_i xK nK uK rK hK mK xS nS uS rS hS mS xA nA uA rA hA mA xB nB uB rB hB mB
      have hgood : ∀ y ∈ a.ls ++ [(⟨rK, rA, rA + r⟩ : Hu)], hurdleE y = 0 := by
        intro y hy
        rcases List.mem_append.1 hy with hy | hy
        · exact i5 y hy
        · rw [List.mem_singleton.1 hy]
          unfold hurdleE
          dsimp only
          rw [if_pos hg, if_neg (by omega), if_neg (by omega)]
      refine ⟨⟨a.i - 1, x', n + 1 + 1, (n, 101), a.ls ++ [⟨rK, rA, rA + r⟩]⟩, ⟨by show 0 ≤ a.i - 1; omega, by simp; omega, by show _ ≤ n + 1 + 1; omega, hu', hgood, fun _ => ⟨by show h.clk ≤ n; omega, by show n < n + 1 + 1; omega⟩⟩, by show (a.i - 1).toNat < a.i.toNat; omega, (by (try (try simp only [e, nil_app, go_sem])); repeat' (first | exact trivial | refine And.intro ?_ ?_ | rfl | (simp (disch := omega) only [go_sem, if_yes, if_no, ↓reduceIte, Nat.reduceAdd, Nat.reduceMul, Nat.reduceEqDiff, Nat.reduceBEq, Nat.reduceLeDiff]; rfl) | (simp (disch := omega) only [go_sem, if_yes, if_no, ↓reduceIte, Nat.reduceAdd, Nat.reduceMul, Nat.reduceEqDiff, Nat.reduceBEq, Nat.reduceLeDiff]))), (by (try (try simp only [e, nil_app, go_sem])); repeat' (first | exact trivial | refine And.intro ?_ ?_ | rfl | (simp (disch := omega) only [go_sem, if_yes, if_no, ↓reduceIte, Nat.reduceAdd, Nat.reduceMul, Nat.reduceEqDiff, Nat.reduceBEq, Nat.reduceLeDiff]; rfl) | (simp (disch := omega) only [go_sem, if_yes, if_no, ↓reduceIte, Nat.reduceAdd, Nat.reduceMul, Nat.reduceEqDiff, Nat.reduceBEq, Nat.reduceLeDiff]))), rfl, by rw [RS.hp, if_neg (by simp)]; simp only [e]; exact hold1 (by omega) (hb1 _ _ (by omega))⟩
    · rename_i xK nK uK rK hK mK hgA xO nO uO rO hO mO
      have hgood : ∀ y ∈ a.ls ++ [(⟨rK, min 2000 (max 0 (rO + r)), 0⟩ : Hu)], hurdleE y = 0 := by
        intro y hy
        rcases List.mem_append.1 hy with hy | hy
        · exact i5 y hy
        · rw [List.mem_singleton.1 hy]
          unfold hurdleE
          dsimp only
          rw [if_neg (by omega), if_pos hg, if_neg (by omega), if_neg (by decide)]
      refine ⟨⟨a.i - 1, x', n + 1 + 1, (n, 101), a.ls ++ [⟨rK, min 2000 (max 0 (rO + r)), 0⟩]⟩, ⟨by show 0 ≤ a.i - 1; omega, by simp; omega, by show _ ≤ n + 1 + 1; omega, hu', hgood, fun _ => ⟨by show h.clk ≤ n; omega, by show n < n + 1 + 1; omega⟩⟩, by show (a.i - 1).toNat < a.i.toNat; omega, (by (try (try simp only [e, nil_app, go_sem])); repeat' (first | exact trivial | refine And.intro ?_ ?_ | rfl | (simp (disch := omega) only [go_sem, if_yes, if_no, ↓reduceIte, Nat.reduceAdd, Nat.reduceMul, Nat.reduceEqDiff, Nat.reduceBEq, Nat.reduceLeDiff]; rfl) | (simp (disch := omega) only [go_sem, if_yes, if_no, ↓reduceIte, Nat.reduceAdd, Nat.reduceMul, Nat.reduceEqDiff, Nat.reduceBEq, Nat.reduceLeDiff]))), (by (try (try simp only [e, nil_app, go_sem])); repeat' (first | exact trivial | refine And.intro ?_ ?_ | rfl | (simp (disch := omega) only [go_sem, if_yes, if_no, ↓reduceIte, Nat.reduceAdd, Nat.reduceMul, Nat.reduceEqDiff, Nat.reduceBEq, Nat.reduceLeDiff]; rfl) | (simp (disch := omega) only [go_sem, if_yes, if_no, ↓reduceIte, Nat.reduceAdd, Nat.reduceMul, Nat.reduceEqDiff, Nat.reduceBEq, Nat.reduceLeDiff]))), rfl, by rw [RS.hp, if_neg (by simp)]; simp only [e]; exact hold1 (by omega) (hb1 _ _ (by omega))⟩
    · rename_i xK nK uK rK hK mK hgA xO nO uO rO hO mO xP nP uP rP hP mP xQ nQ uQ rQ hQ mQ xR nR uR rR hR mR
      have hgood : ∀ y ∈ a.ls ++ [(⟨rK, max 0 (rO + rP), max 0 r⟩ : Hu)], hurdleE y = 0 := by
        intro y hy
        rcases List.mem_append.1 hy with hy | hy
        · exact i5 y hy
        · rw [List.mem_singleton.1 hy]
          unfold hurdleE
          dsimp only
          rw [if_neg (by omega), if_neg (by omega), if_pos (by omega), if_neg (by omega)]
      refine ⟨⟨a.i - 1, x', n + 1 + 1, (n, 101), a.ls ++ [⟨rK, max 0 (rO + rP), max 0 r⟩]⟩, ⟨by show 0 ≤ a.i - 1; omega, by simp; omega, by show _ ≤ n + 1 + 1; omega, hu', hgood, fun _ => ⟨by show h.clk ≤ n; omega, by show n < n + 1 + 1; omega⟩⟩, by show (a.i - 1).toNat < a.i.toNat; omega, (by (try (try simp only [e, nil_app, go_sem])); repeat' (first | exact trivial | refine And.intro ?_ ?_ | rfl | (simp (disch := omega) only [go_sem, if_yes, if_no, ↓reduceIte, Nat.reduceAdd, Nat.reduceMul, Nat.reduceEqDiff, Nat.reduceBEq, Nat.reduceLeDiff]; rfl) | (simp (disch := omega) only [go_sem, if_yes, if_no, ↓reduceIte, Nat.reduceAdd, Nat.reduceMul, Nat.reduceEqDiff, Nat.reduceBEq, Nat.reduceLeDiff]))), (by (try (try simp only [e, nil_app, go_sem])); repeat' (first | exact trivial | refine And.intro ?_ ?_ | rfl | (simp (disch := omega) only [go_sem, if_yes, if_no, ↓reduceIte, Nat.reduceAdd, Nat.reduceMul, Nat.reduceEqDiff, Nat.reduceBEq, Nat.reduceLeDiff]; rfl) | (simp (disch := omega) only [go_sem, if_yes, if_no, ↓reduceIte, Nat.reduceAdd, Nat.reduceMul, Nat.reduceEqDiff, Nat.reduceBEq, Nat.reduceLeDiff]))), rfl, by rw [RS.hp, if_neg (by simp)]; simp only [e]; exact hold1 (by omega) (hb1 _ _ (by omega))⟩
    · simp (disch := omega) only [AEnd, Try.results22, aresK, fin, go_sem, ↓reduceIte, Nat.reduceEqDiff, Nat.reduceAdd, Nat.reduceLeDiff, if_yes, if_no, implies_true, true_and, and_true, List.reverse_cons, List.reverse_nil]
      refine ⟨fun b' _ h2 => if_neg h2, ⟨_, rfl, i4⟩, .inl ⟨.lst 3 [], VLe.nils 3, [], rfl, by simp; omega, by simp⟩⟩
  · have e1 : a.sl = .slc a.bb 3 0 a.ls.length := if_neg e
    have e2 : a.hp h b = ((h.tick a.t).put a.bb (some ⟨3, a.ls.map Hu.row⟩)).put b (dr a.x) := if_neg e
    have e6 := i6 e
    have hbb : ¬ a.bb = b := fun e' => by rw [e'] at e6; omega
    have hbn : h.at_ a.bb = none := by
      cases e' : h.at_ a.bb with
      | none => rfl
      | some k => exact absurd (hall _ _ e') (by omega)
    rw [e2] at hc
    simp only [go_sem] at hc
    simp only [e1, e2, go_sem]
    repeat' (first
        | refine st_seq_reg rfl (by first | (simp only [go_sem, hbb, big, List.length_map]; rfl) | rfl) (by first | (simp only [go_sem, hbb, big, List.length_map]; rfl) | rfl) ?_
        | refine st_reg rfl (by first | (simp only [go_sem, hbb, big, List.length_map]; rfl) | rfl) (by first | (simp only [go_sem, hbb, big, List.length_map]; rfl) | rfl) ?_
        | refine st_seq_draw rfl (by first | (simp only [go_sem, hbb, big, List.length_map]; rfl) | rfl) (by first | (simp only [go_sem, hbb, big, List.length_map]; rfl) | rfl) ?_
        | refine st_draw rfl (by first | (simp only [go_sem, hbb, big, List.length_map]; rfl) | rfl) (by first | (simp only [go_sem, hbb, big, List.length_map]; rfl) | rfl) ?_
        | refine st_op ?_
        | refine st_det rfl (by simp (disch := omega) only [go_sem, wr_i64, if_yes, if_no, ↓reduceIte, Nat.reduceAdd, Nat.reduceMul, Nat.reduceEqDiff, Nat.reduceBEq, Nat.reduceLeDiff, hbb, big, List.length_map]; rfl) ?_
        | refine st_dop rfl ?_
        | refine st_loc rfl (by simp (disch := omega) only [go_sem, wr_i64, if_yes, if_no, ↓reduceIte, Nat.reduceAdd, Nat.reduceMul, Nat.reduceEqDiff, Nat.reduceBEq, Nat.reduceLeDiff, hbb, big, List.length_map]; rfl) ?_
        | refine st_heap rfl (by simp (disch := omega) only [go_sem, wr_i64, if_yes, if_no, ↓reduceIte, Nat.reduceAdd, Nat.reduceMul, Nat.reduceEqDiff, Nat.reduceBEq, Nat.reduceLeDiff, hbb, big, List.length_map]; rfl) ?_
        | refine st_store (by simp (disch := omega) only [go_sem, wr_i64, if_yes, if_no, ↓reduceIte, Nat.reduceAdd, Nat.reduceMul, Nat.reduceEqDiff, Nat.reduceBEq, Nat.reduceLeDiff, hbb, big, List.length_map]; rfl) ?_
        | refine st_append (by simp (disch := omega) only [go_sem, wr_i64, if_yes, if_no, ↓reduceIte, Nat.reduceAdd, Nat.reduceMul, Nat.reduceEqDiff, Nat.reduceBEq, Nat.reduceLeDiff, hbb, big, List.length_map]; rfl) ?_
        | (refine st_drum (by first | (simp (disch := omega) only [go_sem, hbb, big, List.length_map]; rfl) | rfl) rfl (c16b b _ _) (by first | (simp (disch := omega) only [go_sem, hbb, big, List.length_map]; rfl) | rfl) (by assumption) (by first | (simp only [go_sem, hbb, big, List.length_map]; rfl) | rfl) (by intro x' n; simp (disch := omega) only [go_sem]; rfl) ?_; rintro v x' n hu' ⟨r, rfl, hr⟩ hn)
        | (refine st_drum (by first | (simp (disch := omega) only [go_sem, hbb, big, List.length_map]; rfl) | rfl) rfl (c16c b _ _ _) (by first | (simp (disch := omega) only [go_sem, hbb, big, List.length_map]; rfl) | rfl) (by assumption) (by first | (simp only [go_sem, hbb, big, List.length_map]; rfl) | rfl) (by intro x' n; simp (disch := omega) only [go_sem]; rfl) ?_; rintro v x' n hu' ⟨r, rfl, hr⟩ hn)
        | (refine st_drum (by first | (simp (disch := omega) only [go_sem, hbb, big, List.length_map]; rfl) | rfl) rfl (c16d b _ _ _ _) (by first | (simp (disch := omega) only [go_sem, hbb, big, List.length_map]; rfl) | rfl) (by assumption) (by first | (simp only [go_sem, hbb, big, List.length_map]; rfl) | rfl) (by intro x' n; simp (disch := omega) only [go_sem]; rfl) ?_; rintro v x' n hu' ⟨r, rfl, hr⟩ hn)
        | (refine st_drum (by first | (simp (disch := omega) only [go_sem, hbb, big, List.length_map]; rfl) | rfl) rfl (c17' b _ (by omega)) (by first | (simp (disch := omega) only [go_sem, hbb, big, List.length_map]; rfl) | rfl) (by assumption) (by first | (simp only [go_sem, hbb, big, List.length_map]; rfl) | rfl) (by intro x' n; simp (disch := omega) only [go_sem]; rfl) ?_; rintro v x' n hu' ⟨r, rfl, hr⟩ hn)
        | (refine st_drum (by first | (simp (disch := omega) only [go_sem, hbb, big, List.length_map]; rfl) | rfl) rfl (c18' b _ _ (by omega) (by omega)) (by first | (simp (disch := omega) only [go_sem, hbb, big, List.length_map]; rfl) | rfl) (by assumption) (by first | (simp only [go_sem, hbb, big, List.length_map]; rfl) | rfl) (by intro x' n; simp (disch := omega) only [go_sem]; rfl) ?_; rintro v x' n hu' ⟨r, rfl, hr⟩ hn)
        | (refine st_drum (by first | (simp (disch := omega) only [go_sem, hbb, big, List.length_map]; rfl) | rfl) rfl (c42 b _ _ (by omega) (by omega)) (by first | (simp (disch := omega) only [go_sem, hbb, big, List.length_map]; rfl) | rfl) (by assumption) (by first | (simp only [go_sem, hbb, big, List.length_map]; rfl) | rfl) (by intro x' n; simp (disch := omega) only [go_sem]; rfl) ?_; rintro v x' n hu' ⟨r, rfl, hr⟩ hn)
        | refine st_gT rfl rfl rfl ?_
        | refine st_gF rfl rfl rfl ?_
        | refine st_dgT rfl rfl rfl rfl ?_
        | refine st_dgF rfl rfl rfl ?_
        | (refine st_gS rfl rfl ?_ ?_ <;> intro hg <;> (try simp only [decide_eq_true_eq, decide_eq_false_iff_not, Bool.not_eq_true', Bool.not_eq_false'] at hg))
        | (refine st_dgS rfl rfl ?_ ?_ <;> intro hg <;> (try simp only [decide_eq_true_eq, decide_eq_false_iff_not, Bool.not_eq_true', Bool.not_eq_false'] at hg))
        | refine st_condT rfl ?_
        | refine st_condF rfl ?_
        | (refine st_condS rfl ?_ ?_ <;> intro hg <;> (try simp only [decide_eq_true_eq, decide_eq_false_iff_not, Bool.not_eq_true', Bool.not_eq_false'] at hg))
        | refine st_nil ?_
        | refine st_dnil ?_
        | refine st_tN ?_
        | refine st_seq ?_
        | refine st_block ?_
        | refine st_skip ?_
        | refine st_exit ?_
        | refine st_ret ?_
        | refine st_tE ?_
        | refine st_tR ?_
        | refine st_bN ?_
        | refine st_bR ?_
        | refine st_bH ?_
        | refine st_bM rfl ?_)
    · rename_i xK nK uK rK hK mK xS nS uS rS hS mS xA nA uA rA hA mA xB nB uB rB hB mB
      have hgood : ∀ y ∈ a.ls ++ [(⟨rK, rA, rA + r⟩ : Hu)], hurdleE y = 0 := by
        intro y hy
        rcases List.mem_append.1 hy with hy | hy
        · exact i5 y hy
        · rw [List.mem_singleton.1 hy]
          unfold hurdleE
          dsimp only
          rw [if_pos hg, if_neg (by omega), if_neg (by omega)]
      refine ⟨⟨a.i - 1, x', n + 1 + 1, (n, 101), a.ls ++ [⟨rK, rA, rA + r⟩]⟩, ⟨by show 0 ≤ a.i - 1; omega, by simp; omega, by show _ ≤ n + 1 + 1; omega, hu', hgood, fun _ => ⟨by show h.clk ≤ n; omega, by show n < n + 1 + 1; omega⟩⟩, by show (a.i - 1).toNat < a.i.toNat; omega, (by (try (try simp only [go_sem])); repeat' (first | exact trivial | refine And.intro ?_ ?_ | rfl | (simp (disch := omega) only [go_sem, if_yes, if_no, ↓reduceIte, Nat.reduceAdd, Nat.reduceMul, Nat.reduceEqDiff, Nat.reduceBEq, Nat.reduceLeDiff]; rfl) | (simp (disch := omega) only [go_sem, if_yes, if_no, ↓reduceIte, Nat.reduceAdd, Nat.reduceMul, Nat.reduceEqDiff, Nat.reduceBEq, Nat.reduceLeDiff]))), (by (try (try simp only [go_sem])); repeat' (first | exact trivial | refine And.intro ?_ ?_ | rfl | (simp (disch := omega) only [go_sem, if_yes, if_no, ↓reduceIte, Nat.reduceAdd, Nat.reduceMul, Nat.reduceEqDiff, Nat.reduceBEq, Nat.reduceLeDiff]; rfl) | (simp (disch := omega) only [go_sem, if_yes, if_no, ↓reduceIte, Nat.reduceAdd, Nat.reduceMul, Nat.reduceEqDiff, Nat.reduceBEq, Nat.reduceLeDiff]))), rfl, by rw [RS.hp, if_neg (by simp)]; exact hold2 (Nat.le_refl _) (by rw [List.map_append, List.take_of_length_le (by simp)]; rfl) (hb1 _ _ (by omega)) hbn hbb⟩
    · rename_i xK nK uK rK hK mK hgA xO nO uO rO hO mO
      have hgood : ∀ y ∈ a.ls ++ [(⟨rK, min 2000 (max 0 (rO + r)), 0⟩ : Hu)], hurdleE y = 0 := by
        intro y hy
        rcases List.mem_append.1 hy with hy | hy
        · exact i5 y hy
        · rw [List.mem_singleton.1 hy]
          unfold hurdleE
          dsimp only
          rw [if_neg (by omega), if_pos hg, if_neg (by omega), if_neg (by decide)]
      refine ⟨⟨a.i - 1, x', n + 1 + 1, (n, 101), a.ls ++ [⟨rK, min 2000 (max 0 (rO + r)), 0⟩]⟩, ⟨by show 0 ≤ a.i - 1; omega, by simp; omega, by show _ ≤ n + 1 + 1; omega, hu', hgood, fun _ => ⟨by show h.clk ≤ n; omega, by show n < n + 1 + 1; omega⟩⟩, by show (a.i - 1).toNat < a.i.toNat; omega, (by (try (try simp only [go_sem])); repeat' (first | exact trivial | refine And.intro ?_ ?_ | rfl | (simp (disch := omega) only [go_sem, if_yes, if_no, ↓reduceIte, Nat.reduceAdd, Nat.reduceMul, Nat.reduceEqDiff, Nat.reduceBEq, Nat.reduceLeDiff]; rfl) | (simp (disch := omega) only [go_sem, if_yes, if_no, ↓reduceIte, Nat.reduceAdd, Nat.reduceMul, Nat.reduceEqDiff, Nat.reduceBEq, Nat.reduceLeDiff]))), (by (try (try simp only [go_sem])); repeat' (first | exact trivial | refine And.intro ?_ ?_ | rfl | (simp (disch := omega) only [go_sem, if_yes, if_no, ↓reduceIte, Nat.reduceAdd, Nat.reduceMul, Nat.reduceEqDiff, Nat.reduceBEq, Nat.reduceLeDiff]; rfl) | (simp (disch := omega) only [go_sem, if_yes, if_no, ↓reduceIte, Nat.reduceAdd, Nat.reduceMul, Nat.reduceEqDiff, Nat.reduceBEq, Nat.reduceLeDiff]))), rfl, by rw [RS.hp, if_neg (by simp)]; exact hold2 (Nat.le_refl _) (by rw [List.map_append, List.take_of_length_le (by simp)]; rfl) (hb1 _ _ (by omega)) hbn hbb⟩
    · rename_i xK nK uK rK hK mK hgA xO nO uO rO hO mO xP nP uP rP hP mP xQ nQ uQ rQ hQ mQ xR nR uR rR hR mR
      have hgood : ∀ y ∈ a.ls ++ [(⟨rK, max 0 (rO + rP), max 0 r⟩ : Hu)], hurdleE y = 0 := by
        intro y hy
        rcases List.mem_append.1 hy with hy | hy
        · exact i5 y hy
        · rw [List.mem_singleton.1 hy]
          unfold hurdleE
          dsimp only
          rw [if_neg (by omega), if_neg (by omega), if_pos (by omega), if_neg (by omega)]
      refine ⟨⟨a.i - 1, x', n + 1 + 1, (n, 101), a.ls ++ [⟨rK, max 0 (rO + rP), max 0 r⟩]⟩, ⟨by show 0 ≤ a.i - 1; omega, by simp; omega, by show _ ≤ n + 1 + 1; omega, hu', hgood, fun _ => ⟨by show h.clk ≤ n; omega, by show n < n + 1 + 1; omega⟩⟩, by show (a.i - 1).toNat < a.i.toNat; omega, (by (try (try simp only [go_sem])); repeat' (first | exact trivial | refine And.intro ?_ ?_ | rfl | (simp (disch := omega) only [go_sem, if_yes, if_no, ↓reduceIte, Nat.reduceAdd, Nat.reduceMul, Nat.reduceEqDiff, Nat.reduceBEq, Nat.reduceLeDiff]; rfl) | (simp (disch := omega) only [go_sem, if_yes, if_no, ↓reduceIte, Nat.reduceAdd, Nat.reduceMul, Nat.reduceEqDiff, Nat.reduceBEq, Nat.reduceLeDiff]))), (by (try (try simp only [go_sem])); repeat' (first | exact trivial | refine And.intro ?_ ?_ | rfl | (simp (disch := omega) only [go_sem, if_yes, if_no, ↓reduceIte, Nat.reduceAdd, Nat.reduceMul, Nat.reduceEqDiff, Nat.reduceBEq, Nat.reduceLeDiff]; rfl) | (simp (disch := omega) only [go_sem, if_yes, if_no, ↓reduceIte, Nat.reduceAdd, Nat.reduceMul, Nat.reduceEqDiff, Nat.reduceBEq, Nat.reduceLeDiff]))), rfl, by rw [RS.hp, if_neg (by simp)]; exact hold2 (Nat.le_refl _) (by rw [List.map_append, List.take_of_length_le (by simp)]; rfl) (hb1 _ _ (by omega)) hbn hbb⟩
    · simp (disch := omega) only [AEnd, Try.results22, aresK, fin, go_sem, ↓reduceIte, Nat.reduceEqDiff, Nat.reduceAdd, Nat.reduceLeDiff, if_yes, if_no, implies_true, true_and, and_true, List.reverse_cons, List.reverse_nil]
      refine ⟨fun b' h1 h2 => ?_, ⟨_, rfl, i4⟩, .inr ⟨a.bb, ⟨3, a.ls.map Hu.row⟩, e6.1, ?_, a.ls, ?_, by omega, i5⟩⟩
      · rw [if_neg h2, if_neg (fun e' => by rw [e'] at h1; omega)]
      · simp [hbb]
      · simp [frz, List.take_of_length_le, frz_hu]
end Go.Proofs.Ytkjpceapflhmnaa
