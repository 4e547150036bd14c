/- Contracts of functions that the claim reaches: what each call gives, told in our own logic. Conditions: those of each theorem. -/
import Derived.Test.YtkjpceapflhmnaaF41
import Derived.Test.YtkjpceapflhmnaaF22
import Derived.Test.YtkjpceapflhmnaaF27
import Derived.Test.YtkjpceapflhmnaaBaseD
set_option linter.all false
set_option linter.unusedSimpArgs false
set_option linter.unusedVariables false
namespace Go.Proofs.Ytkjpceapflhmnaa
open Go.Av
attribute [local irreducible] thenA blockA awp awpOps awpD awp1
set_option maxHeartbeats 8000000
set_option maxRecDepth 20000
/-! ### All truths -/
def accN {α : Type} (g : Nat → List α) : Nat → List α
  | 0 => []
  | i + 1 => accN g i ++ g i
theorem accN_len {α : Type} {g : Nat → List α} : ∀ {n i : Nat}, i < n → (accN g i).length + (g i).length ≤ (accN g n).length
  | 0, i, h => absurd h (Nat.not_lt_zero _)
  | n + 1, i, h => by
    show _ ≤ (accN g n ++ g n).length
    rw [List.length_append]
    by_cases e : i = n
    · subst e; exact Nat.le_refl _
    · have := accN_len (g := g) (n := n) (i := i) (by omega)
      omega
def trs : List Ld → List Int → List Int → List (List Int × List Int)
  | [], ks, ts => [(ks, ts)]
  | x :: l, ks, ts => accN (fun i => accN (fun j => trs l (ks ++ [x.lo + (i : Nat)]) (ts ++ [x.tlo + (j : Nat)])) (x.thi + 1 - x.tlo).toNat) (x.hi + 1 - x.lo).toNat
def trow (p : List Int × List Int) : List AV := [.lst 1 (p.1.map iv), .lst 1 (p.2.map iv)]
theorem c103 (l : List Int) (hl : l.length ≤ 1000) (h : AH) : ACalls Try.prog 103 [.lst 1 (l.map iv)] h (fun v h' => ∃ bb n, v = .slc bb 1 0 l.length ∧ h.clk ≤ bb.1 ∧ bb.1 < n ∧ h' = (h.tick n).put bb (some ⟨1, l.map iv⟩)) := by
  refine ACalls.sub (Q := fun v h' => v = .slc (h.clk + 1, 5) 1 0 l.length ∧ h' = ((h.tick (h.clk + 1 + 1)).put (h.clk + 1, 3) none).put (h.clk + 1, 5) (some ⟨1, l.map iv⟩)) ?_ ?_
  · refine ACalls.of tab mixed Try.call103 Try.func103 rfl (fi := ⟨6, [], [], none, []⟩) rfl rfl (Nat.le_of_ble_eq_true rfl) (by decide) ?_
    unfold startA
    repeat' (first
        | refine st_seq_reg rfl (by first | (simp only [go_sem, big, List.length_map]; rfl) | rfl) (by first | (simp only [go_sem, big, List.length_map]; rfl) | rfl) ?_
        | refine st_reg rfl (by first | (simp only [go_sem, big, List.length_map]; rfl) | rfl) (by first | (simp only [go_sem, big, List.length_map]; rfl) | rfl) ?_
        | refine st_seq_draw rfl (by first | (simp only [go_sem, big, List.length_map]; rfl) | rfl) (by first | (simp only [go_sem, big, List.length_map]; rfl) | rfl) ?_
        | refine st_draw rfl (by first | (simp only [go_sem, big, List.length_map]; rfl) | rfl) (by first | (simp only [go_sem, big, List.length_map]; rfl) | rfl) ?_
        | refine st_op ?_
        | refine st_det rfl (by simp (disch := omega) only [go_sem, wr_i64, if_yes, if_no, ↓reduceIte, Nat.reduceAdd, Nat.reduceMul, Nat.reduceEqDiff, Nat.reduceBEq, Nat.reduceLeDiff, big, List.length_map]; rfl) ?_
        | refine st_dop rfl ?_
        | refine st_loc rfl (by simp (disch := omega) only [go_sem, wr_i64, if_yes, if_no, ↓reduceIte, Nat.reduceAdd, Nat.reduceMul, Nat.reduceEqDiff, Nat.reduceBEq, Nat.reduceLeDiff, big, List.length_map]; rfl) ?_
        | refine st_heap rfl (by simp (disch := omega) only [go_sem, wr_i64, if_yes, if_no, ↓reduceIte, Nat.reduceAdd, Nat.reduceMul, Nat.reduceEqDiff, Nat.reduceBEq, Nat.reduceLeDiff, big, List.length_map]; rfl) ?_
        | refine st_store (by simp (disch := omega) only [go_sem, wr_i64, if_yes, if_no, ↓reduceIte, Nat.reduceAdd, Nat.reduceMul, Nat.reduceEqDiff, Nat.reduceBEq, Nat.reduceLeDiff, big, List.length_map]; rfl) ?_
        | refine st_append (by simp (disch := omega) only [go_sem, wr_i64, if_yes, if_no, ↓reduceIte, Nat.reduceAdd, Nat.reduceMul, Nat.reduceEqDiff, Nat.reduceBEq, Nat.reduceLeDiff, big, List.length_map]; rfl) ?_
        | refine st_gT rfl rfl rfl ?_
        | refine st_gF rfl rfl rfl ?_
        | refine st_dgT rfl rfl rfl rfl ?_
        | refine st_dgF rfl rfl rfl ?_
        | (refine st_gS rfl rfl ?_ ?_ <;> intro hg <;> (try simp only [decide_eq_true_eq, decide_eq_false_iff_not, Bool.not_eq_true', Bool.not_eq_false'] at hg))
        | (refine st_dgS rfl rfl ?_ ?_ <;> intro hg <;> (try simp only [decide_eq_true_eq, decide_eq_false_iff_not, Bool.not_eq_true', Bool.not_eq_false'] at hg))
        | refine st_condT rfl ?_
        | refine st_condF rfl ?_
        | (refine st_condS rfl ?_ ?_ <;> intro hg <;> (try simp only [decide_eq_true_eq, decide_eq_false_iff_not, Bool.not_eq_true', Bool.not_eq_false'] at hg))
        | refine st_nil ?_
        | refine st_dnil ?_
        | refine st_tN ?_
        | refine st_seq ?_
        | refine st_block ?_
        | refine st_skip ?_
        | refine st_exit ?_
        | refine st_ret ?_
        | refine st_tE ?_
        | refine st_tR ?_
        | refine st_bN ?_
        | refine st_bR ?_
        | refine st_bH ?_
        | refine st_bM rfl ?_)
    simp (disch := omega) only [AEnd, Try.results103, aresK, fin, go_sem, ↓reduceIte, Nat.reduceEqDiff, Nat.reduceAdd, Nat.reduceLeDiff, if_yes, if_no, implies_true, true_and, and_true, List.reverse_cons, List.reverse_nil]
    (rw [Nat.zero_add] <;> rfl)
  · rintro v h' hall hclk ⟨rfl, rfl⟩
    refine ⟨(h.tick (h.clk + 1 + 1)).put (h.clk + 1, 5) (some ⟨1, l.map iv⟩), fun b k hbk => ?_, fun _ _ e => e, Nat.le_refl _, _, _, rfl, by show h.clk ≤ h.clk + 1; omega, by show h.clk + 1 < h.clk + 1 + 1; omega, rfl⟩
    simp only [AH.put, AH.tick, upd_apply] at hbk ⊢
    split at hbk
    · rename_i e; rw [if_pos e]; exact hbk
    · rename_i e
      rw [if_neg e]
      have := hall b k hbk
      rw [if_neg (fun e' => by rw [e'] at this; exact absurd this (by show ¬ h.clk + 1 < h.clk; omega))]
      exact hbk
def Old (H0 H : AH) : Prop := (∀ z k, H0.at_ z = some k → H.at_ z = some k) ∧ (∀ l r, H0.lp l = some r → H.lp l = some r)
theorem Old.refl (H : AH) : Old H H := ⟨fun _ _ e => e, fun _ _ e => e⟩
theorem Old.tick {H0 H : AH} {n : Nat} (h : Old H0 H) : Old H0 (H.tick n) := ⟨h.1, h.2⟩
theorem Old.put {H0 H : AH} {c : Nat × Nat} {y : Option Blk} (hn : H0.at_ c = none) (h : Old H0 H) : Old H0 (H.put c y) := by
  refine ⟨fun z k hz => ?_, h.2⟩
  refine (upd_ne _ _ (fun e => ?_)).trans (h.1 z k hz)
  rw [e, hn] at hz; cases hz
theorem Old.hold {H0 H : AH} {n : Nat} {b : Nat × Nat} {k : Option Blk} (h : Old H0 H) (hn : n ≤ H.clk) : HOld ((H0.tick n).put b k) (H.put b k) := by
  refine ⟨fun z k' hz => ?_, h.2, hn⟩
  simp only [AH.put, upd_apply, AH.tick] at hz ⊢
  by_cases e : z = b
  · subst e; simpa using hz
  · simp only [if_neg e] at hz ⊢; exact h.1 z k' hz
/-- What a list of truths is. -/
def OutIs (h : AH) (out : AV) (L : List (List Int × List Int)) : Prop := (out = .nils ∧ L = []) ∨ ∃ b, out = .slc b 2 0 L.length ∧ h.at_ b = some ⟨2, L.map trow⟩
def outClr (h : AH) : AV → AH
  | .slc b _ _ _ => h.put b none
  | _ => h
@[go_sem] theorem add_nat0 (x : Int) : x + ((0 : Nat) : Int) = x := by simp
@[go_sem] theorem add_nat1 (x y : Int) : x + (y + 1) = x + y + 1 := by omega
theorem addc (x : Int) (i : Nat) : x + ((i + 1 : Nat) : Int) = x + i + 1 := by omega
structure TrT where
  i : Nat
  L : List (List Int × List Int)
  t : Nat
  ob : Option (Nat × Nat)
def TrT.sl (a : TrT) : AV := match a.ob with
  | none => .nils
  | some b => .slc b 2 0 a.L.length
def TrT.hp (h : AH) (a : TrT) : AH := match a.ob with
  | none => h.tick a.t
  | some b => (h.tick a.t).put b (some ⟨2, a.L.map trow⟩)
@[go_sem] theorem TrT.sl_n (i : Nat) (L : List (List Int × List Int)) (t : Nat) : TrT.sl ⟨i, L, t, none⟩ = .nils := rfl
@[go_sem] theorem TrT.sl_s (i : Nat) (L : List (List Int × List Int)) (t : Nat) (b : Nat × Nat) : TrT.sl ⟨i, L, t, some b⟩ = .slc b 2 0 L.length := rfl
@[go_sem] theorem TrT.hp_n (h : AH) (i : Nat) (L : List (List Int × List Int)) (t : Nat) : TrT.hp h ⟨i, L, t, none⟩ = h.tick t := rfl
@[go_sem] theorem TrT.hp_s (h : AH) (i : Nat) (L : List (List Int × List Int)) (t : Nat) (b : Nat × Nat) : TrT.hp h ⟨i, L, t, some b⟩ = (h.tick t).put b (some ⟨2, L.map trow⟩) := rfl
def TrT.ok (h : AH) (n : Nat) (a : TrT) : Prop := h.clk ≤ a.t ∧ (a.ob = none → a.L = []) ∧ ∀ b, a.ob = some b → h.at_ b = none ∧ b.1 < a.t ∧ (a.L.length = n ∨ h.clk ≤ b.1)
theorem hold_put0 {h : AH} {m t : Nat} {b : Nat × Nat} {k : Option Blk} (hb : h.at_ b = k) (hn : t ≤ m) : HOld (((h.put b none).tick t).put b k) (h.tick m) := by
  refine ⟨fun z k' hz => ?_, fun _ _ e => e, hn⟩
  simp only [AH.put, upd_apply, AH.tick] at hz ⊢
  by_cases e : z = b
  · subst e; rw [hb]; simpa using hz
  · simpa [e] using hz
theorem trs_ne (l : List Ld) (hl : ∀ x ∈ l, x.lo ≤ x.hi ∧ x.tlo ≤ x.thi) : ∀ ks ts, trs l ks ts ≠ [] := by
  induction l with
  | nil => intro ks ts e; cases e
  | cons x l ih =>
    intro ks ts e
    obtain ⟨h1, h2⟩ := hl x (List.mem_cons_self ..)
    have q := accN_len (g := fun i => accN (fun j => trs l (ks ++ [x.lo + ((i : Nat) : Int)]) (ts ++ [x.tlo + ((j : Nat) : Int)])) (x.thi + 1 - x.tlo).toNat) (n := (x.hi + 1 - x.lo).toNat) (i := 0) (by omega)
    have q2 := accN_len (g := fun j => trs l (ks ++ [x.lo + ((0 : Nat) : Int)]) (ts ++ [x.tlo + ((j : Nat) : Int)])) (n := (x.thi + 1 - x.tlo).toNat) (i := 0) (by omega)
    have q3 := ih (fun y hy => hl y (List.mem_cons_of_mem _ hy)) (ks ++ [x.lo + ((0 : Nat) : Int)]) (ts ++ [x.tlo + ((0 : Nat) : Int)])
    have e' : (accN (fun i => accN (fun j => trs l (ks ++ [x.lo + ((i : Nat) : Int)]) (ts ++ [x.tlo + ((j : Nat) : Int)])) (x.thi + 1 - x.tlo).toNat) (x.hi + 1 - x.lo).toNat).length = 0 := by
      have : trs (x :: l) ks ts = [] := e
      unfold trs at this
      rw [this]; rfl
    have : (trs l (ks ++ [x.lo + ((0 : Nat) : Int)]) (ts ++ [x.tlo + ((0 : Nat) : Int)])).length = 0 := by
      omega
    exact q3 (List.length_eq_zero_iff.1 this)
theorem c60 (f : Fl) (hfl : f.loads.length ≤ 20) (hx : ∀ x ∈ f.loads, -1000000 ≤ x.lo ∧ x.lo ≤ x.hi ∧ x.hi ≤ 1000000 ∧ -1000000 ≤ x.tlo ∧ x.tlo ≤ x.thi ∧ x.thi ≤ 1000000) : ∀ (l : List Ld) (ks ts : List Int) (h : AH) (out : AV) (L : List (List Int × List Int)),
    f.loads.drop ks.length = l → ks.length ≤ f.loads.length → ts.length = ks.length → OutIs h out L → L.length + (trs l ks ts).length ≤ 100000 →
    ACalls Try.prog 60 [f.av, tr ks ts, out] h (fun v h' => ∃ bo m, h.clk ≤ bo.1 ∧ bo.1 < m ∧ v = .slc bo 2 0 (L ++ trs l ks ts).length ∧ h' = ((outClr h out).tick m).put bo (some ⟨2, (L ++ trs l ks ts).map trow⟩)) := by
  intro l
  induction l with
  | nil =>
    intro ks ts h out L hd hk ht ho hN
    have hkl : ks.length = f.loads.length := by
      have := congrArg List.length hd
      rw [List.length_drop] at this
      simp at this; omega
    have e : trs [] ks ts = [(ks, ts)] := rfl
    rw [e] at hN ⊢
    rcases ho with ⟨rfl, rfl⟩ | ⟨b, rfl, hb⟩
    · refine ACalls.of tab mixed Try.call60 Try.func60 rfl (fi := ⟨65, [8], [3, 4, 21, 53, 59], none, [(11, [0, 0, 2, 6, 0, 16, 62, 0, 128, 510, 0, 1024, 4094, 8190, 0, 32767, 65535], [(0, true), (1, false), (2, true), (4, false), (5, false), (7, false), (8, true), (10, false), (11, false), (14, false), (3, false), (6, false), (9, false), (12, false), (13, false), (15, false), (16, false)])]⟩) rfl rfl (Nat.le_of_ble_eq_true rfl) (by decide) ?_
      unfold startA
      simp only [go_sem]
      repeat' (first
          | refine st_seq_reg rfl (by first | (simp only [go_sem, big, List.length_map, hkl]; rfl) | rfl) (by first | (simp only [go_sem, big, List.length_map, hkl]; rfl) | rfl) ?_
          | refine st_reg rfl (by first | (simp only [go_sem, big, List.length_map, hkl]; rfl) | rfl) (by first | (simp only [go_sem, big, List.length_map, hkl]; rfl) | rfl) ?_
          | refine st_seq_draw rfl (by first | (simp only [go_sem, big, List.length_map, hkl]; rfl) | rfl) (by first | (simp only [go_sem, big, List.length_map, hkl]; rfl) | rfl) ?_
          | refine st_draw rfl (by first | (simp only [go_sem, big, List.length_map, hkl]; rfl) | rfl) (by first | (simp only [go_sem, big, List.length_map, hkl]; rfl) | rfl) ?_
          | refine st_op ?_
          | refine st_det rfl (by simp (disch := omega) only [go_sem, wr_i64, if_yes, if_no, ↓reduceIte, Nat.reduceAdd, Nat.reduceMul, Nat.reduceEqDiff, Nat.reduceBEq, Nat.reduceLeDiff, big, List.length_map, hkl]; rfl) ?_
          | refine st_dop rfl ?_
          | refine st_loc rfl (by simp (disch := omega) only [go_sem, wr_i64, if_yes, if_no, ↓reduceIte, Nat.reduceAdd, Nat.reduceMul, Nat.reduceEqDiff, Nat.reduceBEq, Nat.reduceLeDiff, big, List.length_map, hkl]; rfl) ?_
          | refine st_heap rfl (by simp (disch := omega) only [go_sem, wr_i64, if_yes, if_no, ↓reduceIte, Nat.reduceAdd, Nat.reduceMul, Nat.reduceEqDiff, Nat.reduceBEq, Nat.reduceLeDiff, big, List.length_map, hkl]; rfl) ?_
          | refine st_store (by simp (disch := omega) only [go_sem, wr_i64, if_yes, if_no, ↓reduceIte, Nat.reduceAdd, Nat.reduceMul, Nat.reduceEqDiff, Nat.reduceBEq, Nat.reduceLeDiff, big, List.length_map, hkl]; rfl) ?_
          | refine st_append (by simp (disch := omega) only [go_sem, wr_i64, if_yes, if_no, ↓reduceIte, Nat.reduceAdd, Nat.reduceMul, Nat.reduceEqDiff, Nat.reduceBEq, Nat.reduceLeDiff, big, List.length_map, hkl]; rfl) ?_
          | refine st_gT rfl rfl rfl ?_
          | refine st_gF rfl rfl rfl ?_
          | refine st_dgT rfl rfl rfl rfl ?_
          | refine st_dgF rfl rfl rfl ?_
          | (refine st_gS rfl rfl ?_ ?_ <;> intro hg <;> (try simp only [decide_eq_true_eq, decide_eq_false_iff_not, Bool.not_eq_true', Bool.not_eq_false'] at hg))
          | (refine st_dgS rfl rfl ?_ ?_ <;> intro hg <;> (try simp only [decide_eq_true_eq, decide_eq_false_iff_not, Bool.not_eq_true', Bool.not_eq_false'] at hg))
          | refine st_condT rfl ?_
          | refine st_condF rfl ?_
          | (refine st_condS rfl ?_ ?_ <;> intro hg <;> (try simp only [decide_eq_true_eq, decide_eq_false_iff_not, Bool.not_eq_true', Bool.not_eq_false'] at hg))
          | refine st_nil ?_
          | refine st_dnil ?_
          | refine st_tN ?_
          | refine st_seq ?_
          | refine st_block ?_
          | refine st_skip ?_
          | refine st_exit ?_
          | refine st_ret ?_
          | refine st_tE ?_
          | refine st_tR ?_
          | refine st_bN ?_
          | refine st_bR ?_
          | refine st_bH ?_
          | refine st_bM rfl ?_)
      simp (disch := omega) only [AEnd, Try.results60, aresK, fin, go_sem, ↓reduceIte, Nat.reduceEqDiff, Nat.reduceAdd, Nat.reduceLeDiff, if_yes, if_no, implies_true, true_and, and_true, List.reverse_cons, List.reverse_nil]
      exact ⟨(h.clk + 1 + 1 + 1, 22), h.clk + 1 + 1 + 1 + 1, by show h.clk ≤ h.clk + 1 + 1 + 1; omega, by show h.clk + 1 + 1 + 1 < h.clk + 1 + 1 + 1 + 1; omega, rfl, rfl⟩
    · refine ACalls.of tab mixed Try.call60 Try.func60 rfl (fi := ⟨65, [8], [3, 4, 21, 53, 59], none, [(11, [0, 0, 2, 6, 0, 16, 62, 0, 128, 510, 0, 1024, 4094, 8190, 0, 32767, 65535], [(0, true), (1, false), (2, true), (4, false), (5, false), (7, false), (8, true), (10, false), (11, false), (14, false), (3, false), (6, false), (9, false), (12, false), (13, false), (15, false), (16, false)])]⟩) rfl rfl (Nat.le_of_ble_eq_true rfl) (by decide) ?_
      unfold startA
      simp only [go_sem]
      repeat' (first
          | refine st_seq_reg rfl (by first | (simp only [go_sem, big, List.length_map, hkl, hb]; rfl) | rfl) (by first | (simp only [go_sem, big, List.length_map, hkl, hb]; rfl) | rfl) ?_
          | refine st_reg rfl (by first | (simp only [go_sem, big, List.length_map, hkl, hb]; rfl) | rfl) (by first | (simp only [go_sem, big, List.length_map, hkl, hb]; rfl) | rfl) ?_
          | refine st_seq_draw rfl (by first | (simp only [go_sem, big, List.length_map, hkl, hb]; rfl) | rfl) (by first | (simp only [go_sem, big, List.length_map, hkl, hb]; rfl) | rfl) ?_
          | refine st_draw rfl (by first | (simp only [go_sem, big, List.length_map, hkl, hb]; rfl) | rfl) (by first | (simp only [go_sem, big, List.length_map, hkl, hb]; rfl) | rfl) ?_
          | refine st_op ?_
          | refine st_det rfl (by simp (disch := omega) only [go_sem, wr_i64, if_yes, if_no, ↓reduceIte, Nat.reduceAdd, Nat.reduceMul, Nat.reduceEqDiff, Nat.reduceBEq, Nat.reduceLeDiff, big, List.length_map, hkl, hb]; rfl) ?_
          | refine st_dop rfl ?_
          | refine st_loc rfl (by simp (disch := omega) only [go_sem, wr_i64, if_yes, if_no, ↓reduceIte, Nat.reduceAdd, Nat.reduceMul, Nat.reduceEqDiff, Nat.reduceBEq, Nat.reduceLeDiff, big, List.length_map, hkl, hb]; rfl) ?_
          | refine st_heap rfl (by simp (disch := omega) only [go_sem, wr_i64, if_yes, if_no, ↓reduceIte, Nat.reduceAdd, Nat.reduceMul, Nat.reduceEqDiff, Nat.reduceBEq, Nat.reduceLeDiff, big, List.length_map, hkl, hb]; rfl) ?_
          | refine st_store (by simp (disch := omega) only [go_sem, wr_i64, if_yes, if_no, ↓reduceIte, Nat.reduceAdd, Nat.reduceMul, Nat.reduceEqDiff, Nat.reduceBEq, Nat.reduceLeDiff, big, List.length_map, hkl, hb]; rfl) ?_
          | refine st_append (by simp (disch := omega) only [go_sem, wr_i64, if_yes, if_no, ↓reduceIte, Nat.reduceAdd, Nat.reduceMul, Nat.reduceEqDiff, Nat.reduceBEq, Nat.reduceLeDiff, big, List.length_map, hkl, hb]; rfl) ?_
          | refine st_gT rfl rfl rfl ?_
          | refine st_gF rfl rfl rfl ?_
          | refine st_dgT rfl rfl rfl rfl ?_
          | refine st_dgF rfl rfl rfl ?_
          | (refine st_gS rfl rfl ?_ ?_ <;> intro hg <;> (try simp only [decide_eq_true_eq, decide_eq_false_iff_not, Bool.not_eq_true', Bool.not_eq_false'] at hg))
          | (refine st_dgS rfl rfl ?_ ?_ <;> intro hg <;> (try simp only [decide_eq_true_eq, decide_eq_false_iff_not, Bool.not_eq_true', Bool.not_eq_false'] at hg))
          | refine st_condT rfl ?_
          | refine st_condF rfl ?_
          | (refine st_condS rfl ?_ ?_ <;> intro hg <;> (try simp only [decide_eq_true_eq, decide_eq_false_iff_not, Bool.not_eq_true', Bool.not_eq_false'] at hg))
          | refine st_nil ?_
          | refine st_dnil ?_
          | refine st_tN ?_
          | refine st_seq ?_
          | refine st_block ?_
          | refine st_skip ?_
          | refine st_exit ?_
          | refine st_ret ?_
          | refine st_tE ?_
          | refine st_tR ?_
          | refine st_bN ?_
          | refine st_bR ?_
          | refine st_bH ?_
          | refine st_bM rfl ?_)
      simp (disch := omega) only [AEnd, Try.results60, aresK, fin, go_sem, ↓reduceIte, Nat.reduceEqDiff, Nat.reduceAdd, Nat.reduceLeDiff, if_yes, if_no, implies_true, true_and, and_true, List.reverse_cons, List.reverse_nil]
      refine ⟨(h.clk + 1 + 1 + 1, 22), h.clk + 1 + 1 + 1 + 1, by show h.clk ≤ h.clk + 1 + 1 + 1; omega, by show h.clk + 1 + 1 + 1 < h.clk + 1 + 1 + 1 + 1; omega, by rw [List.length_append]; rfl, ?_⟩
      rw [List.take_of_length_le (by simp), List.map_append]; rfl
  | cons x l ih =>
    intro ks ts h out L hd hk ht ho hN
    have hkl : ks.length < f.loads.length := by
      refine Nat.lt_of_not_le fun hn => ?_
      rw [List.drop_eq_nil_of_le hn] at hd; cases hd
    have hd2 := hd
    rw [drop_ld hkl] at hd2
    have hxe : ld f.loads ks.length = x := (List.cons.inj hd2).1
    have hle : f.loads.drop (ks.length + 1) = l := (List.cons.inj hd2).2
    have hxm : x ∈ f.loads := hxe ▸ ld_mem hkl
    have hxb := hx x hxm
    refine ACalls.old Try.call60 fun hold => ?_
    have key : ∃ (ob0 : Option (Nat × Nat)) (H0 : AH), out = TrT.sl ⟨0, L, h.clk, ob0⟩ ∧ outClr h out = H0 ∧ H0.clk = h.clk ∧ TrT.ok H0 L.length ⟨0, L, h.clk, ob0⟩ ∧ (∀ m, h.clk ≤ m → HOld (TrT.hp H0 ⟨0, L, h.clk, ob0⟩) (h.tick m)) ∧ (∀ b, h.clk ≤ b.1 → H0.at_ b = none) := by
      have hno : ∀ b : Nat × Nat, h.clk ≤ b.1 → h.at_ b = none := fun b hb => by
        cases e' : h.at_ b with
        | none => rfl
        | some kk => exact absurd (hold b kk e') (by omega)
      rcases ho with ⟨rfl, rfl⟩ | ⟨b, rfl, hb⟩
      · exact ⟨none, h, rfl, rfl, rfl, ⟨Nat.le_refl _, fun _ => rfl, fun b' e => by cases e⟩, fun m hm => HOld.of _ hm, hno⟩
      · refine ⟨some b, h.put b none, rfl, rfl, rfl, ⟨Nat.le_refl _, fun e => (by cases e), fun b' e => by cases e; exact ⟨upd_same _ _ _, hold _ _ hb, .inl rfl⟩⟩, fun m hm => hold_put0 hb hm, fun b' hb' => ?_⟩
        by_cases e : b' = b
        · rw [e]; exact upd_same _ _ _
        · exact (upd_ne _ _ e).trans (hno b' hb')
    obtain ⟨ob0, H0, rfl, hclr, hc0, hok, hold0, hno⟩ := key
    rw [hclr]
    clear hclr ho
    let g : Nat → Nat → List (List Int × List Int) := fun i j => trs l (ks ++ [x.lo + (i : Nat)]) (ts ++ [x.tlo + (j : Nat)])
    have hg0 : trs (x :: l) ks ts = accN (fun i => accN (g i) (x.thi + 1 - x.tlo).toNat) (x.hi + 1 - x.lo).toNat := rfl
    rw [hg0] at hN ⊢
    have hg1 : ∀ i j, trs l (ks ++ [x.lo + ((i : Nat) : Int)]) (ts ++ [x.tlo + ((j : Nat) : Int)]) = g i j := fun _ _ => rfl
    have hll : ∀ y ∈ x :: l, y.lo ≤ y.hi ∧ y.tlo ≤ y.thi := fun y hy => by
      have := hx y (List.mem_of_mem_drop (hd ▸ hy))
      exact ⟨this.2.1, this.2.2.2.2.1⟩
    have hne : accN (fun i => accN (g i) (x.thi + 1 - x.tlo).toNat) (x.hi + 1 - x.lo).toNat ≠ [] := hg0 ▸ trs_ne (x :: l) hll ks ts
    clear hg0
    generalize hNN : (x.hi + 1 - x.lo).toNat = N at *
    generalize hMM : (x.thi + 1 - x.tlo).toNat = M at *
    refine ACalls.of tab mixed Try.call60 Try.func60 rfl (fi := ⟨65, [8], [3, 4, 21, 53, 59], none, [(11, [0, 0, 2, 6, 0, 16, 62, 0, 128, 510, 0, 1024, 4094, 8190, 0, 32767, 65535], [(0, true), (1, false), (2, true), (4, false), (5, false), (7, false), (8, true), (10, false), (11, false), (14, false), (3, false), (6, false), (9, false), (12, false), (13, false), (15, false), (16, false)])]⟩) rfl rfl (Nat.le_of_ble_eq_true rfl) (by decide) ?_
    unfold startA
    simp only [go_sem]
    repeat' (first
        | refine st_seq_reg rfl (by first | (simp only [go_sem, big, List.length_map, hxe]; rfl) | rfl) (by first | (simp only [go_sem, big, List.length_map, hxe]; rfl) | rfl) ?_
        | refine st_reg rfl (by first | (simp only [go_sem, big, List.length_map, hxe]; rfl) | rfl) (by first | (simp only [go_sem, big, List.length_map, hxe]; rfl) | rfl) ?_
        | refine st_seq_draw rfl (by first | (simp only [go_sem, big, List.length_map, hxe]; rfl) | rfl) (by first | (simp only [go_sem, big, List.length_map, hxe]; rfl) | rfl) ?_
        | refine st_draw rfl (by first | (simp only [go_sem, big, List.length_map, hxe]; rfl) | rfl) (by first | (simp only [go_sem, big, List.length_map, hxe]; rfl) | rfl) ?_
        | refine st_op ?_
        | refine st_det rfl (by simp (disch := omega) only [go_sem, wr_i64, if_yes, if_no, ↓reduceIte, Nat.reduceAdd, Nat.reduceMul, Nat.reduceEqDiff, Nat.reduceBEq, Nat.reduceLeDiff, big, List.length_map, hxe]; rfl) ?_
        | refine st_dop rfl ?_
        | refine st_loc rfl (by simp (disch := omega) only [go_sem, wr_i64, if_yes, if_no, ↓reduceIte, Nat.reduceAdd, Nat.reduceMul, Nat.reduceEqDiff, Nat.reduceBEq, Nat.reduceLeDiff, big, List.length_map, hxe]; rfl) ?_
        | refine st_heap rfl (by simp (disch := omega) only [go_sem, wr_i64, if_yes, if_no, ↓reduceIte, Nat.reduceAdd, Nat.reduceMul, Nat.reduceEqDiff, Nat.reduceBEq, Nat.reduceLeDiff, big, List.length_map, hxe]; rfl) ?_
        | refine st_store (by simp (disch := omega) only [go_sem, wr_i64, if_yes, if_no, ↓reduceIte, Nat.reduceAdd, Nat.reduceMul, Nat.reduceEqDiff, Nat.reduceBEq, Nat.reduceLeDiff, big, List.length_map, hxe]; rfl) ?_
        | refine st_append (by simp (disch := omega) only [go_sem, wr_i64, if_yes, if_no, ↓reduceIte, Nat.reduceAdd, Nat.reduceMul, Nat.reduceEqDiff, Nat.reduceBEq, Nat.reduceLeDiff, big, List.length_map, hxe]; rfl) ?_
        | refine st_gT rfl rfl rfl ?_
        | refine st_gF rfl rfl rfl ?_
        | refine st_dgT rfl rfl rfl rfl ?_
        | refine st_dgF rfl rfl rfl ?_
        | (refine st_gS rfl rfl ?_ ?_ <;> intro hg <;> (try simp only [decide_eq_true_eq, decide_eq_false_iff_not, Bool.not_eq_true', Bool.not_eq_false'] at hg))
        | (refine st_dgS rfl rfl ?_ ?_ <;> intro hg <;> (try simp only [decide_eq_true_eq, decide_eq_false_iff_not, Bool.not_eq_true', Bool.not_eq_false'] at hg))
        | refine st_condT rfl ?_
        | refine st_condF rfl ?_
        | (refine st_condS rfl ?_ ?_ <;> intro hg <;> (try simp only [decide_eq_true_eq, decide_eq_false_iff_not, Bool.not_eq_true', Bool.not_eq_false'] at hg))
        | refine st_nil ?_
        | refine st_dnil ?_
        | refine st_tN ?_
        | refine st_seq ?_
        | refine st_block ?_
        | refine st_skip ?_
        | refine st_exit ?_
        | refine st_ret ?_
        | refine st_tE ?_
        | refine st_tR ?_
        | refine st_bN ?_
        | refine st_bR ?_
        | refine st_bH ?_
        | refine st_bM rfl ?_)
    all_goals try (exfalso; omega)
    refine st_loopH (α := TrT) tab mixed [] [] (by repeat (first | exact trivial | refine ⟨rfl, ?_⟩)) [8] [_] (by repeat (first | exact trivial | refine ⟨rfl, ?_⟩)) (fun a => [(9, .int .i64 (x.lo + (a.i : Nat))), (2, a.sl)]) [(3, _), (4, _), (8, _)] (fun _ => []) [_] (TrT.hp H0) (fun a => a.i ≤ N ∧ a.L = L ++ accN (fun i => accN (g i) M) a.i ∧ a.ok H0 L.length) (fun a => N - a.i) (by decide) ⟨0, L, h.clk, ob0⟩ ⟨Nat.zero_le _, (List.append_nil _).symm, hok⟩ (by (try simp only [go_sem]); repeat' (first | exact trivial | refine And.intro ?_ ?_ | rfl | (simp (disch := omega) only [go_sem, if_yes, if_no, ↓reduceIte, Nat.reduceAdd, Nat.reduceMul, Nat.reduceEqDiff, Nat.reduceBEq, Nat.reduceLeDiff]; rfl) | (simp (disch := omega) only [go_sem, if_yes, if_no, ↓reduceIte, Nat.reduceAdd, Nat.reduceMul, Nat.reduceEqDiff, Nat.reduceBEq, Nat.reduceLeDiff]))) (by (try simp only [go_sem]); repeat' (first | exact trivial | refine And.intro ?_ ?_ | rfl | (simp (disch := omega) only [go_sem, if_yes, if_no, ↓reduceIte, Nat.reduceAdd, Nat.reduceMul, Nat.reduceEqDiff, Nat.reduceBEq, Nat.reduceLeDiff]; rfl) | (simp (disch := omega) only [go_sem, if_yes, if_no, ↓reduceIte, Nat.reduceAdd, Nat.reduceMul, Nat.reduceEqDiff, Nat.reduceBEq, Nat.reduceLeDiff]))) (hold0 _ (by omega)) ?_
    rintro ⟨i, L1, t1, ob1⟩ c ⟨i1, i2, i3⟩ hc
    dsimp only at i1 i2
    have hct : t1 ≤ c := by cases ob1 <;> exact hc
    simp only [go_sem]
    repeat' (first
        | refine st_seq_reg rfl (by first | (simp only [go_sem]; rfl) | rfl) (by first | (simp only [go_sem]; rfl) | rfl) ?_
        | refine st_reg rfl (by first | (simp only [go_sem]; rfl) | rfl) (by first | (simp only [go_sem]; rfl) | rfl) ?_
        | refine st_seq_draw rfl (by first | (simp only [go_sem]; rfl) | rfl) (by first | (simp only [go_sem]; rfl) | rfl) ?_
        | refine st_draw rfl (by first | (simp only [go_sem]; rfl) | rfl) (by first | (simp only [go_sem]; rfl) | rfl) ?_
        | refine st_op ?_
        | refine st_det rfl (by simp (disch := omega) only [go_sem, wr_i64, if_yes, if_no, ↓reduceIte, Nat.reduceAdd, Nat.reduceMul, Nat.reduceEqDiff, Nat.reduceBEq, Nat.reduceLeDiff]; rfl) ?_
        | refine st_dop rfl ?_
        | refine st_loc rfl (by simp (disch := omega) only [go_sem, wr_i64, if_yes, if_no, ↓reduceIte, Nat.reduceAdd, Nat.reduceMul, Nat.reduceEqDiff, Nat.reduceBEq, Nat.reduceLeDiff]; rfl) ?_
        | refine st_heap rfl (by simp (disch := omega) only [go_sem, wr_i64, if_yes, if_no, ↓reduceIte, Nat.reduceAdd, Nat.reduceMul, Nat.reduceEqDiff, Nat.reduceBEq, Nat.reduceLeDiff]; rfl) ?_
        | refine st_store (by simp (disch := omega) only [go_sem, wr_i64, if_yes, if_no, ↓reduceIte, Nat.reduceAdd, Nat.reduceMul, Nat.reduceEqDiff, Nat.reduceBEq, Nat.reduceLeDiff]; rfl) ?_
        | refine st_append (by simp (disch := omega) only [go_sem, wr_i64, if_yes, if_no, ↓reduceIte, Nat.reduceAdd, Nat.reduceMul, Nat.reduceEqDiff, Nat.reduceBEq, Nat.reduceLeDiff]; rfl) ?_
        | refine st_gT rfl rfl rfl ?_
        | refine st_gF rfl rfl rfl ?_
        | refine st_dgT rfl rfl rfl rfl ?_
        | refine st_dgF rfl rfl rfl ?_
        | (refine st_gS rfl rfl ?_ ?_ <;> intro hg <;> (try simp only [decide_eq_true_eq, decide_eq_false_iff_not, Bool.not_eq_true', Bool.not_eq_false'] at hg))
        | (refine st_dgS rfl rfl ?_ ?_ <;> intro hg <;> (try simp only [decide_eq_true_eq, decide_eq_false_iff_not, Bool.not_eq_true', Bool.not_eq_false'] at hg))
        | refine st_condT rfl ?_
        | refine st_condF rfl ?_
        | (refine st_condS rfl ?_ ?_ <;> intro hg <;> (try simp only [decide_eq_true_eq, decide_eq_false_iff_not, Bool.not_eq_true', Bool.not_eq_false'] at hg))
        | refine st_nil ?_
        | refine st_dnil ?_
        | refine st_tN ?_
        | refine st_seq ?_
        | refine st_block ?_
        | refine st_skip ?_
        | refine st_exit ?_
        | refine st_ret ?_
        | refine st_tE ?_
        | refine st_tR ?_
        | refine st_bN ?_
        | refine st_bR ?_
        | refine st_bH ?_
        | refine st_bM rfl ?_)
    · have hiN : i < N := by omega
      refine st_loopH (α := TrT) tab mixed [] [] (by repeat (first | exact trivial | refine ⟨rfl, ?_⟩)) [8] [_] (by repeat (first | exact trivial | refine ⟨rfl, ?_⟩)) (fun a => [(10, .int .i64 (x.tlo + (a.i : Nat))), (2, a.sl)]) [(3, _), (4, _), (8, _), (9, _)] (fun _ => []) [_] (TrT.hp H0) (fun a => a.i ≤ M ∧ a.L = L ++ accN (fun i => accN (g i) M) i ++ accN (g i) a.i ∧ a.ok H0 L.length) (fun a => M - a.i) (by decide) ⟨0, L1, t1, ob1⟩ ⟨Nat.zero_le _, by rw [show accN (g i) 0 = [] from rfl, List.append_nil]; exact i2, i3⟩ (by (try simp only [go_sem]); repeat' (first | exact trivial | refine And.intro ?_ ?_ | rfl | (simp (disch := omega) only [go_sem, if_yes, if_no, ↓reduceIte, Nat.reduceAdd, Nat.reduceMul, Nat.reduceEqDiff, Nat.reduceBEq, Nat.reduceLeDiff]; rfl) | (simp (disch := omega) only [go_sem, if_yes, if_no, ↓reduceIte, Nat.reduceAdd, Nat.reduceMul, Nat.reduceEqDiff, Nat.reduceBEq, Nat.reduceLeDiff]))) (by (try simp only [go_sem]); repeat' (first | exact trivial | refine And.intro ?_ ?_ | rfl | (simp (disch := omega) only [go_sem, if_yes, if_no, ↓reduceIte, Nat.reduceAdd, Nat.reduceMul, Nat.reduceEqDiff, Nat.reduceBEq, Nat.reduceLeDiff]; rfl) | (simp (disch := omega) only [go_sem, if_yes, if_no, ↓reduceIte, Nat.reduceAdd, Nat.reduceMul, Nat.reduceEqDiff, Nat.reduceBEq, Nat.reduceLeDiff]))) (HOld.tick (Nat.le_trans hc (by omega))) ?_
      rintro ⟨j, L2, t2, ob2⟩ c2 ⟨j1, j2, j3⟩ hc2
      dsimp only at j1 j2
      have jt := j3.1
      dsimp only at jt
      have hksl : ks.length ≤ 1000 := by omega
      have htsl : ts.length ≤ 1000 := by omega
      have z1 : List.take ks.length (ks.map iv) ++ [[.int .i64 (x.lo + (i : Nat))]] = (ks ++ [x.lo + (i : Nat)]).map iv := by rw [List.take_of_length_le (by simp), List.map_append]; rfl
      have z2 : List.take ts.length (ts.map iv) ++ [[.int .i64 (x.tlo + (j : Nat))]] = (ts ++ [x.tlo + (j : Nat)]).map iv := by rw [List.take_of_length_le (by simp), List.map_append]; rfl
      have hd3 : f.loads.drop (ks ++ [x.lo + ((i : Nat) : Int)]).length = l := by rw [List.length_append]; exact hle
      have hk3 : (ks ++ [x.lo + ((i : Nat) : Int)]).length ≤ f.loads.length := by rw [List.length_append]; exact hkl
      have ht3 : (ts ++ [x.tlo + ((j : Nat) : Int)]).length = (ks ++ [x.lo + ((i : Nat) : Int)]).length := by rw [List.length_append, List.length_append, ht]; rfl
      have hN3 : j < M → L2.length + (trs l (ks ++ [x.lo + ((i : Nat) : Int)]) (ts ++ [x.tlo + ((j : Nat) : Int)])).length ≤ 100000 := fun hj => by
        have a1 := accN_len (g := g i) hj
        have a2 := accN_len (g := fun i => accN (g i) M) hiN
        rw [hg1, j2, List.length_append, List.length_append]
        omega
      cases ob2 with
      | none =>
        simp only [go_sem] at hc2
        simp only [go_sem]
        repeat' (first
            | refine st_seq_reg rfl (by first | (simp only [go_sem, big, List.length_map]; rfl) | rfl) (by first | (simp only [go_sem, big, List.length_map]; rfl) | rfl) ?_
            | refine st_reg rfl (by first | (simp only [go_sem, big, List.length_map]; rfl) | rfl) (by first | (simp only [go_sem, big, List.length_map]; rfl) | rfl) ?_
            | refine st_seq_draw rfl (by first | (simp only [go_sem, big, List.length_map]; rfl) | rfl) (by first | (simp only [go_sem, big, List.length_map]; rfl) | rfl) ?_
            | refine st_draw rfl (by first | (simp only [go_sem, big, List.length_map]; rfl) | rfl) (by first | (simp only [go_sem, big, List.length_map]; rfl) | rfl) ?_
            | refine st_op ?_
            | refine st_det rfl (by simp (disch := omega) only [go_sem, wr_i64, if_yes, if_no, ↓reduceIte, Nat.reduceAdd, Nat.reduceMul, Nat.reduceEqDiff, Nat.reduceBEq, Nat.reduceLeDiff, big, List.length_map]; rfl) ?_
            | refine st_dop rfl ?_
            | refine st_loc rfl (by simp (disch := omega) only [go_sem, wr_i64, if_yes, if_no, ↓reduceIte, Nat.reduceAdd, Nat.reduceMul, Nat.reduceEqDiff, Nat.reduceBEq, Nat.reduceLeDiff, big, List.length_map]; rfl) ?_
            | refine st_heap rfl (by simp (disch := omega) only [go_sem, wr_i64, if_yes, if_no, ↓reduceIte, Nat.reduceAdd, Nat.reduceMul, Nat.reduceEqDiff, Nat.reduceBEq, Nat.reduceLeDiff, big, List.length_map]; rfl) ?_
            | refine st_store (by simp (disch := omega) only [go_sem, wr_i64, if_yes, if_no, ↓reduceIte, Nat.reduceAdd, Nat.reduceMul, Nat.reduceEqDiff, Nat.reduceBEq, Nat.reduceLeDiff, big, List.length_map]; rfl) ?_
            | refine st_append (by simp (disch := omega) only [go_sem, wr_i64, if_yes, if_no, ↓reduceIte, Nat.reduceAdd, Nat.reduceMul, Nat.reduceEqDiff, Nat.reduceBEq, Nat.reduceLeDiff, big, List.length_map]; rfl) ?_
            | (refine st_callf rfl rfl (c103 ks hksl _) ?_; rintro v h' ⟨bb1, m1, rfl, u1, u2, rfl⟩)
            | (refine st_callf rfl rfl (c103 ts htsl _) ?_; rintro v h' ⟨bb2, m2, rfl, u3, u4, rfl⟩)
            | refine st_gT rfl rfl rfl ?_
            | refine st_gF rfl rfl rfl ?_
            | refine st_dgT rfl rfl rfl rfl ?_
            | refine st_dgF rfl rfl rfl ?_
            | (refine st_gS rfl rfl ?_ ?_ <;> intro hg <;> (try simp only [decide_eq_true_eq, decide_eq_false_iff_not, Bool.not_eq_true', Bool.not_eq_false'] at hg))
            | (refine st_dgS rfl rfl ?_ ?_ <;> intro hg <;> (try simp only [decide_eq_true_eq, decide_eq_false_iff_not, Bool.not_eq_true', Bool.not_eq_false'] at hg))
            | refine st_condT rfl ?_
            | refine st_condF rfl ?_
            | (refine st_condS rfl ?_ ?_ <;> intro hg <;> (try simp only [decide_eq_true_eq, decide_eq_false_iff_not, Bool.not_eq_true', Bool.not_eq_false'] at hg))
            | refine st_nil ?_
            | refine st_dnil ?_
            | refine st_tN ?_
            | refine st_seq ?_
            | refine st_block ?_
            | refine st_skip ?_
            | refine st_exit ?_
            | refine st_ret ?_
            | refine st_tE ?_
            | refine st_tR ?_
            | refine st_bN ?_
            | refine st_bR ?_
            | refine st_bH ?_
            | refine st_bM rfl ?_)
        · rw [z1, z2]
          simp only [go_sem] at u1 u3
          have v1 : ¬ bb1 = (c2 + 1, 54) := fun e => by rw [e] at u1; exact absurd u1 (by show ¬ c2 + 1 + 1 ≤ c2 + 1; omega)
          have v2 : ¬ ((c2 + 1, 54) : Nat × Nat) = bb2 := fun e => by rw [← e] at u3; exact absurd u3 (by show ¬ m1 ≤ c2 + 1; omega)
          have v3 : ¬ bb2 = (c2 + 1, 60) := fun e => by rw [e] at u3; exact absurd u3 (by show ¬ m1 ≤ c2 + 1; omega)
          have v4 : ¬ ((c2 + 1, 60) : Nat × Nat) = (c2 + 1, 54) := fun e => absurd (congrArg Prod.snd e) (by show ¬ 60 = 54; decide)
          have v5 : ¬ ((c2 + 1, 54) : Nat × Nat) = (c2 + 1, 60) := fun e => v4 e.symm
          refine st_callf (args := [f.av, .agg [.slc (c2 + 1, 54) 1 0 (ks.length + 1), .slc (c2 + 1, 60) 1 0 (ts.length + 1)], .nils]) rfl rfl (ACalls.frzIn (b := (c2 + 1, 54)) (k := ⟨1, (ks ++ [x.lo + (i : Nat)]).map iv⟩) ?_ rfl (ACalls.frzIn (b := (c2 + 1, 60)) (k := ⟨1, (ts ++ [x.tlo + (j : Nat)]).map iv⟩) ?_ ?_ (ih (ks ++ [x.lo + (i : Nat)]) (ts ++ [x.tlo + (j : Nat)]) _ .nils L2 hd3 hk3 ht3 (.inl ⟨rfl, j3.2.1 rfl⟩) (hN3 (by omega))))) ?_
          · simp only [go_sem, ↓reduceIte, v1, v2, v3, v4, v5]
          · simp only [go_sem, ↓reduceIte, v1, v2, v3, v4, v5]
          · simp [frzs, frz, frz_ld, frz_iv, v4, v5, tr, Fl.av, List.take_of_length_le, -List.map_append]
          · rintro v h' ⟨bo, m, q1, q2, rfl, rfl⟩
            simp only [go_sem] at q1
            simp only [outClr, hg1]
            repeat' (first
                | refine st_seq_reg rfl (by first | (simp only [go_sem]; rfl) | rfl) (by first | (simp only [go_sem]; rfl) | rfl) ?_
                | refine st_reg rfl (by first | (simp only [go_sem]; rfl) | rfl) (by first | (simp only [go_sem]; rfl) | rfl) ?_
                | refine st_seq_draw rfl (by first | (simp only [go_sem]; rfl) | rfl) (by first | (simp only [go_sem]; rfl) | rfl) ?_
                | refine st_draw rfl (by first | (simp only [go_sem]; rfl) | rfl) (by first | (simp only [go_sem]; rfl) | rfl) ?_
                | refine st_op ?_
                | refine st_det rfl (by simp (disch := omega) only [go_sem, wr_i64, if_yes, if_no, ↓reduceIte, Nat.reduceAdd, Nat.reduceMul, Nat.reduceEqDiff, Nat.reduceBEq, Nat.reduceLeDiff]; rfl) ?_
                | refine st_dop rfl ?_
                | refine st_loc rfl (by simp (disch := omega) only [go_sem, wr_i64, if_yes, if_no, ↓reduceIte, Nat.reduceAdd, Nat.reduceMul, Nat.reduceEqDiff, Nat.reduceBEq, Nat.reduceLeDiff]; rfl) ?_
                | refine st_heap rfl (by simp (disch := omega) only [go_sem, wr_i64, if_yes, if_no, ↓reduceIte, Nat.reduceAdd, Nat.reduceMul, Nat.reduceEqDiff, Nat.reduceBEq, Nat.reduceLeDiff]; rfl) ?_
                | refine st_store (by simp (disch := omega) only [go_sem, wr_i64, if_yes, if_no, ↓reduceIte, Nat.reduceAdd, Nat.reduceMul, Nat.reduceEqDiff, Nat.reduceBEq, Nat.reduceLeDiff]; rfl) ?_
                | refine st_append (by simp (disch := omega) only [go_sem, wr_i64, if_yes, if_no, ↓reduceIte, Nat.reduceAdd, Nat.reduceMul, Nat.reduceEqDiff, Nat.reduceBEq, Nat.reduceLeDiff]; rfl) ?_
                | refine st_gT rfl rfl rfl ?_
                | refine st_gF rfl rfl rfl ?_
                | refine st_dgT rfl rfl rfl rfl ?_
                | refine st_dgF rfl rfl rfl ?_
                | (refine st_gS rfl rfl ?_ ?_ <;> intro hg <;> (try simp only [decide_eq_true_eq, decide_eq_false_iff_not, Bool.not_eq_true', Bool.not_eq_false'] at hg))
                | (refine st_dgS rfl rfl ?_ ?_ <;> intro hg <;> (try simp only [decide_eq_true_eq, decide_eq_false_iff_not, Bool.not_eq_true', Bool.not_eq_false'] at hg))
                | refine st_condT rfl ?_
                | refine st_condF rfl ?_
                | (refine st_condS rfl ?_ ?_ <;> intro hg <;> (try simp only [decide_eq_true_eq, decide_eq_false_iff_not, Bool.not_eq_true', Bool.not_eq_false'] at hg))
                | refine st_nil ?_
                | refine st_dnil ?_
                | refine st_tN ?_
                | refine st_seq ?_
                | refine st_block ?_
                | refine st_skip ?_
                | refine st_exit ?_
                | refine st_ret ?_
                | refine st_tE ?_
                | refine st_tR ?_
                | refine st_bN ?_
                | refine st_bR ?_
                | refine st_bH ?_
                | refine st_bM rfl ?_)
            refine ⟨⟨j + 1, L2 ++ g i j, m, some bo⟩, ⟨by show j + 1 ≤ M; omega, ?_, by show H0.clk ≤ m; omega, fun e => (by cases e), fun b e => (by cases e; exact ⟨hno _ (by omega), q2, .inr (by show H0.clk ≤ _; omega)⟩)⟩, by show M - (j + 1) < M - j; omega, (by (try (try simp only [go_sem, addc])); repeat' (first | exact trivial | refine And.intro ?_ ?_ | rfl | (simp (disch := omega) only [go_sem, if_yes, if_no, ↓reduceIte, Nat.reduceAdd, Nat.reduceMul, Nat.reduceEqDiff, Nat.reduceBEq, Nat.reduceLeDiff]; rfl) | (simp (disch := omega) only [go_sem, if_yes, if_no, ↓reduceIte, Nat.reduceAdd, Nat.reduceMul, Nat.reduceEqDiff, Nat.reduceBEq, Nat.reduceLeDiff]))), (by (try (try simp only [go_sem, addc])); repeat' (first | exact trivial | refine And.intro ?_ ?_ | rfl | (simp (disch := omega) only [go_sem, if_yes, if_no, ↓reduceIte, Nat.reduceAdd, Nat.reduceMul, Nat.reduceEqDiff, Nat.reduceBEq, Nat.reduceLeDiff]; rfl) | (simp (disch := omega) only [go_sem, if_yes, if_no, ↓reduceIte, Nat.reduceAdd, Nat.reduceMul, Nat.reduceEqDiff, Nat.reduceBEq, Nat.reduceLeDiff]))), rfl, ?_⟩
            · show L2 ++ g i j = L ++ accN (fun i => accN (g i) M) i ++ accN (g i) (j + 1)
              rw [j2]; exact List.append_assoc _ _ _
            · simp only [go_sem]
              refine Old.hold ?_ (by simp only [go_sem]; omega)
              repeat' (first | exact Old.refl _ | refine Old.tick ?_ | refine Old.put (hno _ ?_) ?_)
              all_goals (first | omega | (show h.clk ≤ c2 + 1; omega))
        · refine ⟨⟨i + 1, L2, t2, none⟩, ⟨by show i + 1 ≤ N; omega, ?_, j3⟩, by show N - (i + 1) < N - i; omega, (by (try (try simp only [go_sem, addc])); repeat' (first | exact trivial | refine And.intro ?_ ?_ | rfl | (simp (disch := omega) only [go_sem, if_yes, if_no, ↓reduceIte, Nat.reduceAdd, Nat.reduceMul, Nat.reduceEqDiff, Nat.reduceBEq, Nat.reduceLeDiff]; rfl) | (simp (disch := omega) only [go_sem, if_yes, if_no, ↓reduceIte, Nat.reduceAdd, Nat.reduceMul, Nat.reduceEqDiff, Nat.reduceBEq, Nat.reduceLeDiff]))), (by (try (try simp only [go_sem, addc])); repeat' (first | exact trivial | refine And.intro ?_ ?_ | rfl | (simp (disch := omega) only [go_sem, if_yes, if_no, ↓reduceIte, Nat.reduceAdd, Nat.reduceMul, Nat.reduceEqDiff, Nat.reduceBEq, Nat.reduceLeDiff]; rfl) | (simp (disch := omega) only [go_sem, if_yes, if_no, ↓reduceIte, Nat.reduceAdd, Nat.reduceMul, Nat.reduceEqDiff, Nat.reduceBEq, Nat.reduceLeDiff]))), rfl, ?_⟩
          rotate_left
          · simp only [go_sem]; exact HOld.of _ (by omega)
          show L2 = L ++ accN (fun i => accN (g i) M) (i + 1)
          have ej : j = M := by omega
          rw [j2, ej]; exact List.append_assoc _ _ _
      | some b2 =>
        simp only [go_sem] at hc2
        simp only [go_sem]
        obtain ⟨w1, w2, -⟩ := j3.2.2 b2 rfl
        dsimp only at w2
        repeat' (first
            | refine st_seq_reg rfl (by first | (simp only [go_sem, big, List.length_map]; rfl) | rfl) (by first | (simp only [go_sem, big, List.length_map]; rfl) | rfl) ?_
            | refine st_reg rfl (by first | (simp only [go_sem, big, List.length_map]; rfl) | rfl) (by first | (simp only [go_sem, big, List.length_map]; rfl) | rfl) ?_
            | refine st_seq_draw rfl (by first | (simp only [go_sem, big, List.length_map]; rfl) | rfl) (by first | (simp only [go_sem, big, List.length_map]; rfl) | rfl) ?_
            | refine st_draw rfl (by first | (simp only [go_sem, big, List.length_map]; rfl) | rfl) (by first | (simp only [go_sem, big, List.length_map]; rfl) | rfl) ?_
            | refine st_op ?_
            | refine st_det rfl (by simp (disch := omega) only [go_sem, wr_i64, if_yes, if_no, ↓reduceIte, Nat.reduceAdd, Nat.reduceMul, Nat.reduceEqDiff, Nat.reduceBEq, Nat.reduceLeDiff, big, List.length_map]; rfl) ?_
            | refine st_dop rfl ?_
            | refine st_loc rfl (by simp (disch := omega) only [go_sem, wr_i64, if_yes, if_no, ↓reduceIte, Nat.reduceAdd, Nat.reduceMul, Nat.reduceEqDiff, Nat.reduceBEq, Nat.reduceLeDiff, big, List.length_map]; rfl) ?_
            | refine st_heap rfl (by simp (disch := omega) only [go_sem, wr_i64, if_yes, if_no, ↓reduceIte, Nat.reduceAdd, Nat.reduceMul, Nat.reduceEqDiff, Nat.reduceBEq, Nat.reduceLeDiff, big, List.length_map]; rfl) ?_
            | refine st_store (by simp (disch := omega) only [go_sem, wr_i64, if_yes, if_no, ↓reduceIte, Nat.reduceAdd, Nat.reduceMul, Nat.reduceEqDiff, Nat.reduceBEq, Nat.reduceLeDiff, big, List.length_map]; rfl) ?_
            | refine st_append (by simp (disch := omega) only [go_sem, wr_i64, if_yes, if_no, ↓reduceIte, Nat.reduceAdd, Nat.reduceMul, Nat.reduceEqDiff, Nat.reduceBEq, Nat.reduceLeDiff, big, List.length_map]; rfl) ?_
            | (refine st_callf rfl rfl (c103 ks hksl _) ?_; rintro v h' ⟨bb1, m1, rfl, u1, u2, rfl⟩)
            | (refine st_callf rfl rfl (c103 ts htsl _) ?_; rintro v h' ⟨bb2, m2, rfl, u3, u4, rfl⟩)
            | refine st_gT rfl rfl rfl ?_
            | refine st_gF rfl rfl rfl ?_
            | refine st_dgT rfl rfl rfl rfl ?_
            | refine st_dgF rfl rfl rfl ?_
            | (refine st_gS rfl rfl ?_ ?_ <;> intro hg <;> (try simp only [decide_eq_true_eq, decide_eq_false_iff_not, Bool.not_eq_true', Bool.not_eq_false'] at hg))
            | (refine st_dgS rfl rfl ?_ ?_ <;> intro hg <;> (try simp only [decide_eq_true_eq, decide_eq_false_iff_not, Bool.not_eq_true', Bool.not_eq_false'] at hg))
            | refine st_condT rfl ?_
            | refine st_condF rfl ?_
            | (refine st_condS rfl ?_ ?_ <;> intro hg <;> (try simp only [decide_eq_true_eq, decide_eq_false_iff_not, Bool.not_eq_true', Bool.not_eq_false'] at hg))
            | refine st_nil ?_
            | refine st_dnil ?_
            | refine st_tN ?_
            | refine st_seq ?_
            | refine st_block ?_
            | refine st_skip ?_
            | refine st_exit ?_
            | refine st_ret ?_
            | refine st_tE ?_
            | refine st_tR ?_
            | refine st_bN ?_
            | refine st_bR ?_
            | refine st_bH ?_
            | refine st_bM rfl ?_)
        · rw [z1, z2]
          simp only [go_sem] at u1 u3
          have v1 : ¬ bb1 = (c2 + 1, 54) := fun e => by rw [e] at u1; exact absurd u1 (by show ¬ c2 + 1 + 1 ≤ c2 + 1; omega)
          have v2 : ¬ ((c2 + 1, 54) : Nat × Nat) = bb2 := fun e => by rw [← e] at u3; exact absurd u3 (by show ¬ m1 ≤ c2 + 1; omega)
          have v3 : ¬ bb2 = (c2 + 1, 60) := fun e => by rw [e] at u3; exact absurd u3 (by show ¬ m1 ≤ c2 + 1; omega)
          have v4 : ¬ ((c2 + 1, 60) : Nat × Nat) = (c2 + 1, 54) := fun e => absurd (congrArg Prod.snd e) (by show ¬ 60 = 54; decide)
          have v5 : ¬ ((c2 + 1, 54) : Nat × Nat) = (c2 + 1, 60) := fun e => v4 e.symm
          have y1 : ¬ b2 = bb1 := fun e => by rw [← e] at u1; omega
          have y2 : ¬ b2 = bb2 := fun e => by rw [← e] at u3; omega
          have y3 : ¬ b2 = (c2 + 1, 54) := fun e => by rw [e] at w2; exact absurd w2 (by show ¬ c2 + 1 < t2; omega)
          have y4 : ¬ b2 = (c2 + 1, 60) := fun e => by rw [e] at w2; exact absurd w2 (by show ¬ c2 + 1 < t2; omega)
          refine st_callf (args := [f.av, .agg [.slc (c2 + 1, 54) 1 0 (ks.length + 1), .slc (c2 + 1, 60) 1 0 (ts.length + 1)], .slc b2 2 0 L2.length]) rfl rfl (ACalls.frzIn (b := (c2 + 1, 54)) (k := ⟨1, (ks ++ [x.lo + (i : Nat)]).map iv⟩) ?_ rfl (ACalls.frzIn (b := (c2 + 1, 60)) (k := ⟨1, (ts ++ [x.tlo + (j : Nat)]).map iv⟩) ?_ ?_ (ih (ks ++ [x.lo + (i : Nat)]) (ts ++ [x.tlo + (j : Nat)]) _ (.slc b2 2 0 L2.length) L2 hd3 hk3 ht3 (.inr ⟨b2, rfl, ?_⟩) (hN3 (by omega))))) ?_
          · simp only [go_sem, ↓reduceIte, v1, v2, v3, v4, v5]
          · simp only [go_sem, ↓reduceIte, v1, v2, v3, v4, v5]
          · simp [frzs, frz, frz_ld, frz_iv, v4, v5, tr, Fl.av, List.take_of_length_le, -List.map_append, y1, y2, y3, y4]
          · simp only [go_sem, ↓reduceIte, v1, v2, v3, v4, v5, y1, y2, y3, y4]
          · rintro v h' ⟨bo, m, q1, q2, rfl, rfl⟩
            simp only [go_sem] at q1
            simp only [outClr, hg1]
            repeat' (first
                | refine st_seq_reg rfl (by first | (simp only [go_sem]; rfl) | rfl) (by first | (simp only [go_sem]; rfl) | rfl) ?_
                | refine st_reg rfl (by first | (simp only [go_sem]; rfl) | rfl) (by first | (simp only [go_sem]; rfl) | rfl) ?_
                | refine st_seq_draw rfl (by first | (simp only [go_sem]; rfl) | rfl) (by first | (simp only [go_sem]; rfl) | rfl) ?_
                | refine st_draw rfl (by first | (simp only [go_sem]; rfl) | rfl) (by first | (simp only [go_sem]; rfl) | rfl) ?_
                | refine st_op ?_
                | refine st_det rfl (by simp (disch := omega) only [go_sem, wr_i64, if_yes, if_no, ↓reduceIte, Nat.reduceAdd, Nat.reduceMul, Nat.reduceEqDiff, Nat.reduceBEq, Nat.reduceLeDiff]; rfl) ?_
                | refine st_dop rfl ?_
                | refine st_loc rfl (by simp (disch := omega) only [go_sem, wr_i64, if_yes, if_no, ↓reduceIte, Nat.reduceAdd, Nat.reduceMul, Nat.reduceEqDiff, Nat.reduceBEq, Nat.reduceLeDiff]; rfl) ?_
                | refine st_heap rfl (by simp (disch := omega) only [go_sem, wr_i64, if_yes, if_no, ↓reduceIte, Nat.reduceAdd, Nat.reduceMul, Nat.reduceEqDiff, Nat.reduceBEq, Nat.reduceLeDiff]; rfl) ?_
                | refine st_store (by simp (disch := omega) only [go_sem, wr_i64, if_yes, if_no, ↓reduceIte, Nat.reduceAdd, Nat.reduceMul, Nat.reduceEqDiff, Nat.reduceBEq, Nat.reduceLeDiff]; rfl) ?_
                | refine st_append (by simp (disch := omega) only [go_sem, wr_i64, if_yes, if_no, ↓reduceIte, Nat.reduceAdd, Nat.reduceMul, Nat.reduceEqDiff, Nat.reduceBEq, Nat.reduceLeDiff]; rfl) ?_
                | refine st_gT rfl rfl rfl ?_
                | refine st_gF rfl rfl rfl ?_
                | refine st_dgT rfl rfl rfl rfl ?_
                | refine st_dgF rfl rfl rfl ?_
                | (refine st_gS rfl rfl ?_ ?_ <;> intro hg <;> (try simp only [decide_eq_true_eq, decide_eq_false_iff_not, Bool.not_eq_true', Bool.not_eq_false'] at hg))
                | (refine st_dgS rfl rfl ?_ ?_ <;> intro hg <;> (try simp only [decide_eq_true_eq, decide_eq_false_iff_not, Bool.not_eq_true', Bool.not_eq_false'] at hg))
                | refine st_condT rfl ?_
                | refine st_condF rfl ?_
                | (refine st_condS rfl ?_ ?_ <;> intro hg <;> (try simp only [decide_eq_true_eq, decide_eq_false_iff_not, Bool.not_eq_true', Bool.not_eq_false'] at hg))
                | refine st_nil ?_
                | refine st_dnil ?_
                | refine st_tN ?_
                | refine st_seq ?_
                | refine st_block ?_
                | refine st_skip ?_
                | refine st_exit ?_
                | refine st_ret ?_
                | refine st_tE ?_
                | refine st_tR ?_
                | refine st_bN ?_
                | refine st_bR ?_
                | refine st_bH ?_
                | refine st_bM rfl ?_)
            refine ⟨⟨j + 1, L2 ++ g i j, m, some bo⟩, ⟨by show j + 1 ≤ M; omega, ?_, by show H0.clk ≤ m; omega, fun e => (by cases e), fun b e => (by cases e; exact ⟨hno _ (by omega), q2, .inr (by show H0.clk ≤ _; omega)⟩)⟩, by show M - (j + 1) < M - j; omega, (by (try (try simp only [go_sem, addc])); repeat' (first | exact trivial | refine And.intro ?_ ?_ | rfl | (simp (disch := omega) only [go_sem, if_yes, if_no, ↓reduceIte, Nat.reduceAdd, Nat.reduceMul, Nat.reduceEqDiff, Nat.reduceBEq, Nat.reduceLeDiff]; rfl) | (simp (disch := omega) only [go_sem, if_yes, if_no, ↓reduceIte, Nat.reduceAdd, Nat.reduceMul, Nat.reduceEqDiff, Nat.reduceBEq, Nat.reduceLeDiff]))), (by (try (try simp only [go_sem, addc])); repeat' (first | exact trivial | refine And.intro ?_ ?_ | rfl | (simp (disch := omega) only [go_sem, if_yes, if_no, ↓reduceIte, Nat.reduceAdd, Nat.reduceMul, Nat.reduceEqDiff, Nat.reduceBEq, Nat.reduceLeDiff]; rfl) | (simp (disch := omega) only [go_sem, if_yes, if_no, ↓reduceIte, Nat.reduceAdd, Nat.reduceMul, Nat.reduceEqDiff, Nat.reduceBEq, Nat.reduceLeDiff]))), rfl, ?_⟩
            · show L2 ++ g i j = L ++ accN (fun i => accN (g i) M) i ++ accN (g i) (j + 1)
              rw [j2]; exact List.append_assoc _ _ _
            · simp only [go_sem]
              refine Old.hold ?_ (by simp only [go_sem]; omega)
              repeat' (first | exact Old.refl _ | refine Old.tick ?_ | refine Old.put w1 ?_ | refine Old.put (hno _ ?_) ?_)
              all_goals (first | omega | (show h.clk ≤ c2 + 1; omega))
        · refine ⟨⟨i + 1, L2, t2, some b2⟩, ⟨by show i + 1 ≤ N; omega, ?_, j3⟩, by show N - (i + 1) < N - i; omega, (by (try (try simp only [go_sem, addc])); repeat' (first | exact trivial | refine And.intro ?_ ?_ | rfl | (simp (disch := omega) only [go_sem, if_yes, if_no, ↓reduceIte, Nat.reduceAdd, Nat.reduceMul, Nat.reduceEqDiff, Nat.reduceBEq, Nat.reduceLeDiff]; rfl) | (simp (disch := omega) only [go_sem, if_yes, if_no, ↓reduceIte, Nat.reduceAdd, Nat.reduceMul, Nat.reduceEqDiff, Nat.reduceBEq, Nat.reduceLeDiff]))), (by (try (try simp only [go_sem, addc])); repeat' (first | exact trivial | refine And.intro ?_ ?_ | rfl | (simp (disch := omega) only [go_sem, if_yes, if_no, ↓reduceIte, Nat.reduceAdd, Nat.reduceMul, Nat.reduceEqDiff, Nat.reduceBEq, Nat.reduceLeDiff]; rfl) | (simp (disch := omega) only [go_sem, if_yes, if_no, ↓reduceIte, Nat.reduceAdd, Nat.reduceMul, Nat.reduceEqDiff, Nat.reduceBEq, Nat.reduceLeDiff]))), rfl, ?_⟩
          rotate_left
          · simp only [go_sem]; exact HOld.put _ _ _ (by omega)
          show L2 = L ++ accN (fun i => accN (g i) M) (i + 1)
          have ej : j = M := by omega
          rw [j2, ej]; exact List.append_assoc _ _ _
    · have hi : i = N := by omega
      cases ob1 with
      | none =>
        exfalso
        have e1 : L1 = [] := i3.2.1 rfl
        have e2 : (accN (fun i => accN (g i) M) i) = [] := by
          have := i2.symm.trans e1
          exact (List.append_eq_nil_iff.1 this).2
        rw [hi] at e2
        exact hne e2
      | some b1 =>
        simp only [go_sem] at hc
        simp only [go_sem]
        simp (disch := omega) only [AEnd, Try.results60, aresK, fin, go_sem, ↓reduceIte, Nat.reduceEqDiff, Nat.reduceAdd, Nat.reduceLeDiff, if_yes, if_no, implies_true, true_and, and_true, List.reverse_cons, List.reverse_nil]
        obtain ⟨w1, w2, w3⟩ := i3.2.2 b1 rfl
        dsimp only at w2 w3
        have hL : 0 < (accN (fun i => accN (g i) M) N).length := List.length_pos_iff.2 hne
        have hl : L1.length = L.length + (accN (fun i => accN (g i) M) N).length := by rw [i2, hi, List.length_append]
        refine ⟨b1, c + 1 + 1, ?_, by omega, ?_, ?_⟩
        · rcases w3 with w3 | w3 <;> omega
        · rw [i2, hi]
        · rw [i2, hi]
end Go.Proofs.Ytkjpceapflhmnaa
