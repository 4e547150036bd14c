/- Contracts of functions that the claim reaches: what each call gives, told in our own logic. Conditions: those of each theorem. -/
import Derived.Test.YthjbfdfhblloiaaQ14
import Derived.Test.YthjbfdfhblloiaaBaseD
import Derived.Test.YthjbfdfhblloiaaW8a
import Derived.Test.YthjbfdfhblloiaaQ17
import Derived.Test.YthjbfdfhblloiaaQ4
import Derived.Test.YthjbfdfhblloiaaQ31
set_option linter.all false
set_option linter.unusedSimpArgs false
set_option linter.unusedVariables false
namespace Go.Proofs.Ythjbfdfhblloiaa
open Go.Av
attribute [local irreducible] thenA blockA awp awpOps awpD awp1
set_option maxHeartbeats 8000000
set_option maxRecDepth 20000
/-! ### Where a group may be: the program's answer -/
structure WhS where
  i : Nat
  v : AV
  g : AH
theorem le_nil3 (z : Nat) (b : Bool) (e : Int) : VLe (.tup [.nils, .bool b, .int .i64 e]) (.tup [.lst z [], .bool b, .int .i64 e]) := VLe.tup (by simp only [VLes]; exact ⟨_, _, rfl, VLe.nils z, _, _, rfl, VLe.refl _, _, _, rfl, VLe.refl _, rfl⟩)
theorem ansB {h g : AH} {v : AV} {z : Nat} {l : List (List AV)} {R : AV → Prop} {b : Bool} {e : Int} (hS : SlA h.clk g v z l) (hR : R (.tup [.lst z l, .bool b, .int .i64 e])) : (∃ v', VLe (.tup [v, .bool b, .int .i64 e]) v' ∧ R v') ∨ ∃ b2 k', h.clk ≤ b2.1 ∧ g.at_ b2 = some k' ∧ R (frz b2 k' (.tup [v, .bool b, .int .i64 e])) := by
  rcases hS with ⟨rfl, rfl⟩ | ⟨b1, rfl, h2, h3, h4⟩
  · exact .inl ⟨_, le_nil3 z b e, hR⟩
  · exact .inr ⟨b1, _, h3, h2, by have e := frz_lst (b := b1) (z := z) (l := l); simp only [frz, frzs] at e ⊢; rw [e]; exact hR⟩
def MapIs (t : Tw) (s : Nat → Int) (g : Gp) (st : Int) (n : Nat) (L : List (Int × AV)) : Prop := ∀ q : Int, aget L q = if someN t s g q st n = true then some (.bool true) else none
theorem MapIs.next {t : Tw} {s : Nat → Int} {g : Gp} {st : Int} {n : Nat} {L : List (Int × AV)} (h : MapIs t s g st n L) : MapIs t s g st (n + 1) (aset L (plc t s g (g.alo + (n : Nat)) st) (.bool true)) := by
  intro q
  rw [aget_aset, h q, someN_next]
  by_cases e : q = plc t s g (g.alo + (n : Nat)) st
  · rw [if_pos e, e]; simp
  · rw [if_neg e, decide_eq_false (fun e1 => e e1.symm), Bool.or_false]
theorem c45 (t : Tw) (c : List Int) (g st : Int) (hcl : c.length ≤ 1000000) : Pure Try.prog 45 [t.av, .lst 1 (c.map iv), .int .i64 g, .int .i64 st] (fun v => v = whV t c g st) := by
  have k74 := c74 t c hcl
  have ht0 : t.av = .agg t.cells := rfl
  refine Pure.giveM Try.call45 fun h hall => ?_
  by_cases h0 : cloE t c = 0
  case neg =>
    refine ACalls.of tab mixed Try.call45 Try.func45 rfl (fi := ⟨68, [12], [4, 27, 34, 62, 1000018], none, [(9, [0, 1, 0, 0, 8, 0, 56, 120, 0, 511], [(0, false), (2, true), (3, false), (4, true), (5, false), (6, false), (7, true), (8, false), (1, false), (9, false)]), (18, [0, 0, 2, 1, 15, 31], [(0, false), (1, true), (2, false), (3, false), (4, false), (5, false)])]⟩) rfl rfl (Nat.le_of_ble_eq_true rfl) (by decide) ?_
    unfold startA
    simp only [go_sem]
    repeat' (first | refine st_seq_reg rfl (by first | (simp only [go_sem]; rfl) | rfl) (by first | (simp only [go_sem]; rfl) | rfl) ?_ | refine st_op ?_ | refine st_det rfl (by simp (disch := omega) only [go_sem, wr_i64, if_yes, if_no, ↓reduceIte, Nat.reduceAdd, Nat.reduceMul, Nat.reduceEqDiff, Nat.reduceBEq, Nat.reduceLeDiff]; rfl) ?_ | (refine st_pureE (by first | (simp (disch := omega) only [go_sem]; rfl) | rfl) rfl (k74) (by first | (simp only [go_sem]; rfl) | rfl) (by intro n; first | (simp (disch := omega) only [go_sem]; rfl) | rfl) ?_; intro n hn) | (refine st_condS rfl ?_ ?_ <;> intro hg <;> (try simp only [decide_eq_true_eq, decide_eq_false_iff_not, Bool.not_eq_true', Bool.not_eq_false'] at hg)) | refine st_nil ?_ | refine st_tN ?_ | refine st_seq ?_ | refine st_block ?_ | refine st_skip ?_ | refine st_ret ?_ | refine st_tR ?_)
    all_goals try (exfalso; omega)
    simp (disch := omega) only [AEnd, Try.results45, aresK, fin, go_sem, ↓reduceIte, Nat.reduceEqDiff, Nat.reduceAdd, Nat.reduceLeDiff, if_yes, if_no, implies_true, true_and, and_true, List.reverse_cons, List.reverse_nil]
    exact ⟨fun _ _ e => e, .inl ⟨_, le_nil3 1 false _, by unfold whV; rw [if_pos h0]⟩⟩
  rw [h0] at k74
  obtain ⟨hT, hc⟩ := cloOk h0
  have hrn := hT.rn
  have hsn := hT.sn
  have hgn := hT.gn
  have hst := hT.steps
  have k68 := c68a 0 (t.gs.length - 1 : Int) g
  have k68b := c68a 0 t.steps st
  by_cases h1 : 0 ≤ g ∧ g ≤ t.gs.length - 1
  case neg =>
    rw [decide_eq_false h1] at k68
    refine ACalls.of tab mixed Try.call45 Try.func45 rfl (fi := ⟨68, [12], [4, 27, 34, 62, 1000018], none, [(9, [0, 1, 0, 0, 8, 0, 56, 120, 0, 511], [(0, false), (2, true), (3, false), (4, true), (5, false), (6, false), (7, true), (8, false), (1, false), (9, false)]), (18, [0, 0, 2, 1, 15, 31], [(0, false), (1, true), (2, false), (3, false), (4, false), (5, false)])]⟩) rfl rfl (Nat.le_of_ble_eq_true rfl) (by decide) ?_
    unfold startA
    rw [ht0]
    unfold Tw.cells
    repeat' (first | refine st_seq_reg rfl (by first | (simp only [go_sem, List.length_map]; rfl) | rfl) (by first | (simp only [go_sem, List.length_map]; rfl) | rfl) ?_ | refine st_op ?_ | refine st_det rfl (by simp (disch := omega) only [go_sem, wr_i64, if_yes, if_no, ↓reduceIte, Nat.reduceAdd, Nat.reduceMul, Nat.reduceEqDiff, Nat.reduceBEq, Nat.reduceLeDiff, List.length_map]; rfl) ?_ | (refine st_pureE (by first | (simp (disch := omega) only [go_sem, List.length_map]; rfl) | rfl) rfl (k74) (by first | (simp only [go_sem, List.length_map]; rfl) | rfl) (by intro n; first | (simp (disch := omega) only [go_sem]; rfl) | rfl) ?_; intro n hn) | (refine st_pureE (by first | (simp (disch := omega) only [go_sem, List.length_map]; rfl) | rfl) rfl (k68) (by first | (simp only [go_sem, List.length_map]; rfl) | rfl) (by intro n; first | (simp (disch := omega) only [go_sem]; rfl) | rfl) ?_; intro n hn) | refine st_condT rfl ?_ | refine st_condF rfl ?_ | refine st_nil ?_ | refine st_tN ?_ | refine st_seq ?_ | refine st_block ?_ | refine st_skip ?_ | refine st_ret ?_ | refine st_tR ?_ | refine st_bR ?_)
    all_goals try (exfalso; omega)
    simp (disch := omega) only [AEnd, Try.results45, aresK, fin, go_sem, ↓reduceIte, Nat.reduceEqDiff, Nat.reduceAdd, Nat.reduceLeDiff, if_yes, if_no, implies_true, true_and, and_true, List.reverse_cons, List.reverse_nil]
    exact ⟨fun _ _ e => e, .inl ⟨_, le_nil3 1 false 7, by unfold whV; rw [if_neg (fun e => e h0), if_pos (by omega)]⟩⟩
  rw [decide_eq_true h1] at k68
  by_cases h2 : 0 ≤ st ∧ st ≤ t.steps
  case neg =>
    rw [decide_eq_false h2] at k68b
    refine ACalls.of tab mixed Try.call45 Try.func45 rfl (fi := ⟨68, [12], [4, 27, 34, 62, 1000018], none, [(9, [0, 1, 0, 0, 8, 0, 56, 120, 0, 511], [(0, false), (2, true), (3, false), (4, true), (5, false), (6, false), (7, true), (8, false), (1, false), (9, false)]), (18, [0, 0, 2, 1, 15, 31], [(0, false), (1, true), (2, false), (3, false), (4, false), (5, false)])]⟩) rfl rfl (Nat.le_of_ble_eq_true rfl) (by decide) ?_
    unfold startA
    rw [ht0]
    unfold Tw.cells
    repeat' (first | refine st_seq_reg rfl (by first | (simp only [go_sem, List.length_map]; rfl) | rfl) (by first | (simp only [go_sem, List.length_map]; rfl) | rfl) ?_ | refine st_op ?_ | refine st_det rfl (by simp (disch := omega) only [go_sem, wr_i64, if_yes, if_no, ↓reduceIte, Nat.reduceAdd, Nat.reduceMul, Nat.reduceEqDiff, Nat.reduceBEq, Nat.reduceLeDiff, List.length_map]; rfl) ?_ | (refine st_pureE (by first | (simp (disch := omega) only [go_sem, List.length_map]; rfl) | rfl) rfl (k74) (by first | (simp only [go_sem, List.length_map]; rfl) | rfl) (by intro n; first | (simp (disch := omega) only [go_sem]; rfl) | rfl) ?_; intro n hn) | (refine st_pureE (by first | (simp (disch := omega) only [go_sem, List.length_map]; rfl) | rfl) rfl (k68) (by first | (simp only [go_sem, List.length_map]; rfl) | rfl) (by intro n; first | (simp (disch := omega) only [go_sem]; rfl) | rfl) ?_; intro n hn) | (refine st_pureE (by first | (simp (disch := omega) only [go_sem, List.length_map]; rfl) | rfl) rfl (k68b) (by first | (simp only [go_sem, List.length_map]; rfl) | rfl) (by intro n; first | (simp (disch := omega) only [go_sem]; rfl) | rfl) ?_; intro n hn) | refine st_condT rfl ?_ | refine st_condF rfl ?_ | refine st_nil ?_ | refine st_tN ?_ | refine st_seq ?_ | refine st_block ?_ | refine st_skip ?_ | refine st_ret ?_ | refine st_tR ?_ | refine st_bR ?_)
    all_goals try (exfalso; omega)
    simp (disch := omega) only [AEnd, Try.results45, aresK, fin, go_sem, ↓reduceIte, Nat.reduceEqDiff, Nat.reduceAdd, Nat.reduceLeDiff, if_yes, if_no, implies_true, true_and, and_true, List.reverse_cons, List.reverse_nil]
    exact ⟨fun _ _ e => e, .inl ⟨_, le_nil3 1 false 2, by unfold whV; rw [if_neg (fun e => e h0), if_neg (fun e => e ⟨h1.1, by omega⟩), if_pos h2]⟩⟩
  rw [decide_eq_true h2] at k68b
  obtain ⟨G, rfl⟩ : ∃ m : Nat, g = m := ⟨g.toNat, by omega⟩
  have hG : G < t.gs.length := by omega
  have hGp := hT.g G hG
  have k83 := c83 c hcl (fun i hi => by have := hc i hi; omega)
  have k87 := c87 t (cls c) (gp t.gs G) st
  have hV : whV t c (G : Nat) st = .tup [.lst 1 ((whN t (cls c) (gp t.gs G) st t.rooms.length).map iv), .bool (someB t (cls c) (gp t.gs G) (-1) st), .int .i64 0] := by
    unfold whV; rw [if_neg (fun e => e h0), if_neg (fun e => e ⟨h1.1, by omega⟩), if_neg (fun e => e h2)]; rfl
  rw [hV]
  refine ACalls.of tab mixed Try.call45 Try.func45 rfl (fi := ⟨68, [], [4, 27, 34, 62, 1000018], none, [(9, [0, 1, 0, 0, 8, 0, 56, 120, 0, 511], [(0, false), (2, true), (3, false), (4, true), (5, false), (6, false), (7, true), (8, false), (1, false), (9, false)]), (18, [0, 0, 2, 1, 15, 31], [(0, false), (1, true), (2, false), (3, false), (4, false), (5, false)])]⟩) rfl rfl (Nat.le_of_ble_eq_true rfl) (by decide) ?_
  unfold startA
  rw [ht0]
  unfold Tw.cells
  repeat' (first | refine st_seq_reg rfl (by first | (simp only [go_sem, List.length_map]; rfl) | rfl) (by first | (simp only [go_sem, List.length_map]; rfl) | rfl) ?_ | refine st_seq_draw rfl (by first | (simp only [go_sem, List.length_map]; rfl) | rfl) (by first | (simp only [go_sem, List.length_map]; rfl) | rfl) ?_ | refine st_op ?_ | refine st_det rfl (by simp (disch := omega) only [go_sem, wr_i64, if_yes, if_no, ↓reduceIte, Nat.reduceAdd, Nat.reduceMul, Nat.reduceEqDiff, Nat.reduceBEq, Nat.reduceLeDiff, List.length_map]; rfl) ?_ | refine st_dop rfl ?_ | refine st_heap rfl (by simp (disch := omega) only [go_sem, wr_i64, if_yes, if_no, ↓reduceIte, Nat.reduceAdd, Nat.reduceMul, Nat.reduceEqDiff, Nat.reduceBEq, Nat.reduceLeDiff, List.length_map]; rfl) ?_ | refine st_store (by simp (disch := omega) only [go_sem, wr_i64, if_yes, if_no, ↓reduceIte, Nat.reduceAdd, Nat.reduceMul, Nat.reduceEqDiff, Nat.reduceBEq, Nat.reduceLeDiff, List.length_map]; rfl) ?_ | (refine st_pureE (by first | (simp (disch := omega) only [go_sem, List.length_map]; rfl) | rfl) rfl (k74) (by first | (simp only [go_sem, List.length_map]; rfl) | rfl) (by intro n; first | (simp (disch := omega) only [go_sem]; rfl) | rfl) ?_; intro n hn) | (refine st_pureE (by first | (simp (disch := omega) only [go_sem, List.length_map]; rfl) | rfl) rfl (k68) (by first | (simp only [go_sem, List.length_map]; rfl) | rfl) (by intro n; first | (simp (disch := omega) only [go_sem]; rfl) | rfl) ?_; intro n hn) | (refine st_pureE (by first | (simp (disch := omega) only [go_sem, List.length_map]; rfl) | rfl) rfl (k68b) (by first | (simp only [go_sem, List.length_map]; rfl) | rfl) (by intro n; first | (simp (disch := omega) only [go_sem]; rfl) | rfl) ?_; intro n hn) | (refine st_pureE (by first | (simp (disch := omega) only [go_sem, List.length_map]; rfl) | rfl) rfl (k83) (by first | (simp only [go_sem, List.length_map]; rfl) | rfl) (by intro n; first | (simp (disch := omega) only [go_sem]; rfl) | rfl) ?_; intro n hn) | (refine st_pureE (by first | (simp (disch := omega) only [go_sem, List.length_map]; rfl) | rfl) rfl (k87) (by first | (simp only [go_sem, List.length_map]; rfl) | rfl) (by intro n; first | (simp (disch := omega) only [go_sem]; rfl) | rfl) ?_; intro n hn) | (refine st_mkMap ?_; intro l hl) | refine st_condF rfl ?_ | refine st_nil ?_ | refine st_dnil ?_ | refine st_tN ?_ | refine st_seq ?_ | refine st_block ?_ | refine st_skip ?_ | refine st_bN ?_)
  all_goals try (exfalso; omega)
  refine st_rangeFunc rfl (by simp only [go_sem]; rfl) (fun l2 D R hR hlp => ?_)
  simp only [go_sem] at hlp
  rename_i N8 hN8 N9 hN9
  have hne : l ≠ l2 := fun e => by rw [← e, lpSet_same] at hlp; cases hlp
  rw [lpSet_ne _ _ hne.symm] at hlp
  have hl' : h.lp l = none := hl
  have hlp' : h.lp l2 = none := hlp
  let I : Nat → AH → Prop := fun i g' => g'.lp l2 = some R ∧ (∃ L, g'.lp l = some (mrec L) ∧ MapIs t (cls c) (gp t.gs G) st i L) ∧ n ≤ g'.clk ∧ (∀ b' : Bid, b'.1 < h.clk → g'.at_ b' = h.at_ b') ∧ (∀ l' r, h.lp l' = some r → g'.lp l' = some r) ∧ g'.at_ (N8, 12) = some ⟨1, [[.mp l]]⟩
  have hn12 : ∀ b' : Nat × Nat, b'.1 < h.clk → ¬ b' = (N8, 12) := fun b' hb' => ne_fst hb' (by show h.clk ≤ N8; omega)
  have hold : ∀ {l' : Nat} {r : LRec}, h.lp l' = some r → l' ≠ l ∧ l' ≠ l2 := fun e => ⟨fun q => (by rw [q, hl'] at e; cases e), fun q => (by rw [q, hlp'] at e; cases e)⟩
  refine (c106 t (cls c) (gp t.gs G) st l2 hT hGp ⟨by omega, by omega⟩ I ?_ ?_ _ ?_).mono ?_
  · rintro i g' m ⟨h1, h2, h3, h4, h5, h6⟩ hm
    exact ⟨h1, h2, by show n ≤ m; omega, h4, h5, h6⟩
  · rintro i g' hi ⟨h1, ⟨L, hL, hM⟩, h3, h4, h5, h6⟩
    have hLb : ∀ r, (g'.lpSet l2 r).lp l = some (mrec L) := fun r => by rw [lpSet_ne _ _ hne]; exact hL
    refine AYields.canonD tab mixed [] [] [(9, [0, 1, 0, 0, 8, 0, 56, 120, 0, 511], [(0, false), (2, true), (3, false), (4, true), (5, false), (6, false), (7, true), (8, false), (1, false), (9, false)]), (18, [0, 0, 2, 1, 15, 31], [(0, false), (1, true), (2, false), (3, false), (4, false), (5, false)])] hR h1 rfl (by intro p hp; simp at hp; rcases hp with rfl; decide) [(48, .int .i64 (plc t (cls c) (gp t.gs G) ((gp t.gs G).alo + (i : Nat)) st)), (12, .ptr (N8, 12) 0 0)] ⟨rfl, rfl, trivial⟩ (by decide) (by decide) ?_
    simp only [go_sem]
    repeat' (first | refine st_reg rfl (by first | (simp only [go_sem]; rfl) | rfl) (by first | (simp only [go_sem]; rfl) | rfl) ?_ | refine st_op ?_ | refine st_det rfl (by simp (disch := omega) only [go_sem, wr_i64, if_yes, if_no, ↓reduceIte, Nat.reduceAdd, Nat.reduceMul, Nat.reduceEqDiff, Nat.reduceBEq, Nat.reduceLeDiff]; rfl) ?_ | refine st_nil ?_ | refine st_tN ?_)
    refine ⟨h1, ?_⟩
    dsimp only
    have hMn := hM.next
    generalize plc t (cls c) (gp t.gs G) ((gp t.gs G).alo + (i : Nat)) st = p at *
    repeat' (first | refine st_reg rfl (by first | (simp only [go_sem, h6]; rfl) | rfl) (by first | (simp only [go_sem, h6]; rfl) | rfl) ?_ | refine st_op ?_ | refine st_det rfl (by simp (disch := omega) only [go_sem, wr_i64, if_yes, if_no, ↓reduceIte, Nat.reduceAdd, Nat.reduceMul, Nat.reduceEqDiff, Nat.reduceBEq, Nat.reduceLeDiff, h6]; rfl) ?_ | (refine st_mapUp (l := l) (L := L) (n := p) (v := .bool true) Try.underlying129 Try.underlying3 (by first | (simp only [go_sem]; rfl) | rfl) (by first | (simp only [go_sem]; rfl) | rfl) rfl rfl (by first | exact hLb _ | (simp only [go_sem]; exact hLb _)) ?_) | refine st_nil ?_ | refine st_block ?_ | refine st_bN ?_)
    all_goals
      refine ⟨?_, rfl, lpSet_same _ _ _, ⟨_, ?_, hMn⟩, by simp only [go_sem]; omega, fun b' hb' => ?_, fun l' r hl1 => ?_, ?_⟩
      · rw [lpSet_ne _ _ hne.symm]; exact lpSet_same _ _ _
      · rw [lpSet_ne _ _ hne]; exact lpSet_same _ _ _
      · simp only [go_sem]; exact h4 b' hb'
      · rw [lpSet_ne _ _ (hold hl1).2, lpSet_ne _ _ (hold hl1).1]
        show (g'.lpSet l2 _).lp l' = _
        rw [lpSet_ne _ _ (hold hl1).2]; exact h5 l' r hl1
      · simp only [go_sem]; exact h6
  · refine ⟨lpSet_same _ _ _, ⟨[], ?_, fun q => rfl⟩, by simp only [go_sem]; omega, fun b' hb' => ?_, fun l' r hl1 => ?_, by simp only [go_sem, ↓reduceIte]⟩
    · rw [lpSet_ne _ _ hne]
      show ((h.tick (N8 + 1)).lpSet l (some (mrec []))).lp l = _
      exact lpSet_same _ _ _
    · simp only [go_sem, if_neg (hn12 b' hb')]
    · rw [lpSet_ne _ _ (hold hl1).2]
      show ((h.tick (N8 + 1)).lpSet l (some (mrec []))).lp l' = _
      rw [lpSet_ne _ _ (hold hl1).1]; exact hl1
  rintro v h' ⟨h1, ⟨L, hL, hM⟩, h3, h4, h5, h6⟩
  refine .inl ⟨h1, st_bN (st_tN ?_)⟩
  have hMB : ∀ q : Int, aget L q = if someB t (cls c) (gp t.gs G) q st = true then some (.bool true) else none := hM
  have hL2 : ∀ r, (h'.lpSet l2 r).lp l = some (mrec L) := fun r => by rw [lpSet_ne _ _ hne]; exact hL
  have h52 : ∀ l' r, h.lp l' = some r → (h'.lpSet l2 none).lp l' = some r := fun l' r hl1 => by rw [lpSet_ne _ _ (hold hl1).2]; exact h5 l' r hl1
  have hL3 := hL2 none
  have h62 : (h'.lpSet l2 none).at_ (N8, 12) = some ⟨1, [[.mp l]]⟩ := h6
  have h42 : ∀ b' : Bid, b'.1 < h.clk → (h'.lpSet l2 none).at_ b' = h.at_ b' := h4
  have h32 : n ≤ (h'.lpSet l2 none).clk := h3
  clear hL h5 h6 h4 h3 hL2 hM h1
  generalize h'.lpSet l2 none = g1 at *
  repeat' (first | refine st_seq_reg rfl (by first | (simp only [go_sem, List.length_map]; rfl) | rfl) (by first | (simp only [go_sem, List.length_map]; rfl) | rfl) ?_ | refine st_op ?_ | refine st_det rfl (by simp (disch := omega) only [go_sem, wr_i64, if_yes, if_no, ↓reduceIte, Nat.reduceAdd, Nat.reduceMul, Nat.reduceEqDiff, Nat.reduceBEq, Nat.reduceLeDiff, List.length_map]; rfl) ?_ | refine st_nil ?_ | refine st_seq ?_ | refine st_block ?_)
  all_goals try (exfalso; omega)
  refine st_loopH (α := WhS) tab mixed [] [] (by repeat (first | exact trivial | refine ⟨rfl, ?_⟩)) [] [] (by repeat (first | exact trivial | refine ⟨rfl, ?_⟩)) (fun a => [(54, .int .i64 (a.i : Nat)), (8, a.v)]) [(12, _), (53, _)] (fun _ => []) [] (fun a => a.g) (fun a => a.i ≤ t.rooms.length ∧ a.g.lp = g1.lp ∧ (∀ b' : Bid, b'.1 < N8 + 1 → a.g.at_ b' = g1.at_ b') ∧ N8 < a.g.clk ∧ SlA (N8 + 1) a.g a.v 1 ((whN t (cls c) (gp t.gs G) st a.i).map iv)) (fun a => t.rooms.length - a.i) (by decide) ⟨0, .nils, _⟩ (by refine ⟨Nat.zero_le _, rfl, fun _ _ => rfl, by simp only [go_sem]; omega, .inl ⟨rfl, rfl⟩⟩) (by (try simp only [go_sem]); repeat' (first | exact trivial | refine And.intro ?_ ?_ | rfl | (simp (disch := omega) only [go_sem, if_yes, if_no, ↓reduceIte, Nat.reduceAdd, Nat.reduceMul, Nat.reduceEqDiff, Nat.reduceBEq, Nat.reduceLeDiff]; rfl) | (simp (disch := omega) only [go_sem, if_yes, if_no, ↓reduceIte, Nat.reduceAdd, Nat.reduceMul, Nat.reduceEqDiff, Nat.reduceBEq, Nat.reduceLeDiff]))) (by (try simp only [go_sem]); repeat' (first | exact trivial | refine And.intro ?_ ?_ | rfl | (simp (disch := omega) only [go_sem, if_yes, if_no, ↓reduceIte, Nat.reduceAdd, Nat.reduceMul, Nat.reduceEqDiff, Nat.reduceBEq, Nat.reduceLeDiff]; rfl) | (simp (disch := omega) only [go_sem, if_yes, if_no, ↓reduceIte, Nat.reduceAdd, Nat.reduceMul, Nat.reduceEqDiff, Nat.reduceBEq, Nat.reduceLeDiff]))) (HOld.refl _) ?_
  rintro ⟨i, v, g⟩ d ⟨i1, i2, i3, i4, hS⟩ hd
  dsimp only at i1 i2 i3 i4 hS hd
  simp only [go_sem]
  have hgl : g.lp l = some (mrec L) := by rw [i2]; exact hL3
  have hg6 : g.at_ (N8, 12) = some ⟨1, [[.mp l]]⟩ := by rw [i3 _ (Nat.lt_succ_self _)]; exact h62
  have hwl := whN_len (t := t) (s := cls c) (g := gp t.gs G) (st := st) i
  by_cases hi : i < t.rooms.length
  case pos =>
    have hnc := hS.noL
    by_cases hb : someB t (cls c) (gp t.gs G) (i : Nat) st = true
    · have hnx : whN t (cls c) (gp t.gs G) st (i + 1) = whN t (cls c) (gp t.gs G) st i ++ [((i : Nat) : Int)] := by
        show whN t (cls c) (gp t.gs G) st i ++ _ = _
        rw [if_pos hb]
      have hai : aget L ((i : Nat) : Int) = some (.bool true) := by rw [hMB, if_pos hb]
      repeat' (first | refine st_seq_reg rfl (by first | (simp only [go_sem, List.length_map, hg6]; rfl) | rfl) (by first | (simp only [go_sem, List.length_map, hg6]; rfl) | rfl) ?_ | refine st_reg rfl (by first | (simp only [go_sem, List.length_map, hg6]; rfl) | rfl) (by first | (simp only [go_sem, List.length_map, hg6]; rfl) | rfl) ?_ | refine st_op ?_ | refine st_det rfl (by simp (disch := omega) only [go_sem, wr_i64, if_yes, if_no, ↓reduceIte, Nat.reduceAdd, Nat.reduceMul, Nat.reduceEqDiff, Nat.reduceBEq, Nat.reduceLeDiff, List.length_map, hg6]; rfl) ?_ | (refine st_mapGet (l := l) (L := L) (n := (i : Nat)) Try.underlying129 Try.underlying3 inf4 rfl (by first | (simp only [go_sem, hg6]; rfl) | rfl) (by first | (simp only [go_sem]; rfl) | rfl) (by first | exact hgl | (simp only [go_sem]; exact hgl)) ?_; simp only [hai, Option.getD_some, go_sem, ↓reduceIte, Bool.false_eq_true]) | (refine st_appS (by intro h id x y; simp only [go_sem]; rfl) rfl (by simp only [go_sem, List.length_map, hg6]; rfl) (by simp only [go_sem, List.length_map, hg6]; rfl) (by decide) hS (fun _ _ _ => rfl) (by omega) (by simp only [List.length_map, List.length_cons, List.length_nil, big, List.length_map, hg6]; omega) (by omega) (by omega) ?_; intro v' g' hA) | refine st_condT rfl ?_ | (refine st_condS rfl ?_ ?_ <;> intro hg <;> (try simp only [decide_eq_true_eq, decide_eq_false_iff_not, Bool.not_eq_true', Bool.not_eq_false'] at hg)) | refine st_nil ?_ | refine st_tN ?_ | refine st_seq ?_ | refine st_block ?_ | refine st_skip ?_ | refine st_exit ?_ | refine st_tE ?_ | refine st_bN ?_ | refine st_bH ?_)
      all_goals try (exfalso; omega)
      refine ⟨⟨i + 1, v', _⟩, (by refine ⟨by show i + 1 ≤ _; omega, hA.lp.trans i2, fun b' hb' => (hA.old b' hb').trans (i3 b' hb'), by simp only [go_sem]; omega, by rw [hnx, List.map_append]; exact hA.sl.to (fun _ _ _ _ _ => rfl) (by simp only [go_sem]; omega)⟩), by show t.rooms.length - (i + 1) < t.rooms.length - i; omega, (by repeat' (first | exact trivial | refine And.intro ?_ ?_ | rfl | (simp (disch := omega) only [go_sem, if_yes, if_no, ↓reduceIte, Nat.reduceAdd, Nat.reduceMul, Nat.reduceEqDiff, Nat.reduceBEq, Nat.reduceLeDiff]; rfl) | (simp (disch := omega) only [go_sem, if_yes, if_no, ↓reduceIte, Nat.reduceAdd, Nat.reduceMul, Nat.reduceEqDiff, Nat.reduceBEq, Nat.reduceLeDiff]))), (by repeat' (first | exact trivial | refine And.intro ?_ ?_ | rfl | (simp (disch := omega) only [go_sem, if_yes, if_no, ↓reduceIte, Nat.reduceAdd, Nat.reduceMul, Nat.reduceEqDiff, Nat.reduceBEq, Nat.reduceLeDiff]; rfl) | (simp (disch := omega) only [go_sem, if_yes, if_no, ↓reduceIte, Nat.reduceAdd, Nat.reduceMul, Nat.reduceEqDiff, Nat.reduceBEq, Nat.reduceLeDiff]))), rfl, HOld.refl _⟩
    · have hnx : whN t (cls c) (gp t.gs G) st (i + 1) = whN t (cls c) (gp t.gs G) st i := by
        show whN t (cls c) (gp t.gs G) st i ++ _ = _
        rw [if_neg hb, List.append_nil]
      have hai : aget L ((i : Nat) : Int) = none := by rw [hMB, if_neg hb]
      repeat' (first | refine st_seq_reg rfl (by first | (simp only [go_sem, List.length_map, hg6]; rfl) | rfl) (by first | (simp only [go_sem, List.length_map, hg6]; rfl) | rfl) ?_ | refine st_reg rfl (by first | (simp only [go_sem, List.length_map, hg6]; rfl) | rfl) (by first | (simp only [go_sem, List.length_map, hg6]; rfl) | rfl) ?_ | refine st_op ?_ | refine st_det rfl (by simp (disch := omega) only [go_sem, wr_i64, if_yes, if_no, ↓reduceIte, Nat.reduceAdd, Nat.reduceMul, Nat.reduceEqDiff, Nat.reduceBEq, Nat.reduceLeDiff, List.length_map, hg6]; rfl) ?_ | (refine st_mapGet (l := l) (L := L) (n := (i : Nat)) Try.underlying129 Try.underlying3 inf4 rfl (by first | (simp only [go_sem, hg6]; rfl) | rfl) (by first | (simp only [go_sem]; rfl) | rfl) (by first | exact hgl | (simp only [go_sem]; exact hgl)) ?_; simp only [hai, Option.getD_none, go_sem, ↓reduceIte, Bool.false_eq_true]) | refine st_condF rfl ?_ | (refine st_condS rfl ?_ ?_ <;> intro hg <;> (try simp only [decide_eq_true_eq, decide_eq_false_iff_not, Bool.not_eq_true', Bool.not_eq_false'] at hg)) | refine st_nil ?_ | refine st_tN ?_ | refine st_seq ?_ | refine st_block ?_ | refine st_skip ?_ | refine st_exit ?_ | refine st_tE ?_ | refine st_bN ?_ | refine st_bH ?_)
      all_goals try (exfalso; omega)
      refine ⟨⟨i + 1, v, _⟩, (by refine ⟨by show i + 1 ≤ _; omega, i2, fun b' hb' => i3 b' hb', by simp only [go_sem]; omega, by rw [hnx]; exact hS.to (fun _ _ _ _ _ => rfl) (by simp only [go_sem]; omega)⟩), by show t.rooms.length - (i + 1) < t.rooms.length - i; omega, (by repeat' (first | exact trivial | refine And.intro ?_ ?_ | rfl | (simp (disch := omega) only [go_sem, if_yes, if_no, ↓reduceIte, Nat.reduceAdd, Nat.reduceMul, Nat.reduceEqDiff, Nat.reduceBEq, Nat.reduceLeDiff]; rfl) | (simp (disch := omega) only [go_sem, if_yes, if_no, ↓reduceIte, Nat.reduceAdd, Nat.reduceMul, Nat.reduceEqDiff, Nat.reduceBEq, Nat.reduceLeDiff]))), (by repeat' (first | exact trivial | refine And.intro ?_ ?_ | rfl | (simp (disch := omega) only [go_sem, if_yes, if_no, ↓reduceIte, Nat.reduceAdd, Nat.reduceMul, Nat.reduceEqDiff, Nat.reduceBEq, Nat.reduceLeDiff]; rfl) | (simp (disch := omega) only [go_sem, if_yes, if_no, ↓reduceIte, Nat.reduceAdd, Nat.reduceMul, Nat.reduceEqDiff, Nat.reduceBEq, Nat.reduceLeDiff]))), rfl, HOld.refl _⟩
  obtain rfl : i = t.rooms.length := by omega
  repeat' (first | refine st_seq_reg rfl (by first | (simp only [go_sem]; rfl) | rfl) (by first | (simp only [go_sem]; rfl) | rfl) ?_ | refine st_op ?_ | refine st_det rfl (by simp (disch := omega) only [go_sem, wr_i64, if_yes, if_no, ↓reduceIte, Nat.reduceAdd, Nat.reduceMul, Nat.reduceEqDiff, Nat.reduceBEq, Nat.reduceLeDiff]; rfl) ?_ | (refine st_condS rfl ?_ ?_ <;> intro hg <;> (try simp only [decide_eq_true_eq, decide_eq_false_iff_not, Bool.not_eq_true', Bool.not_eq_false'] at hg)) | refine st_nil ?_ | refine st_tN ?_ | refine st_seq ?_ | refine st_block ?_ | refine st_skip ?_ | refine st_exit ?_ | refine st_tE ?_ | refine st_bH ?_)
  all_goals try (exfalso; omega)
  have hbz : (aget L (-1)).getD (.bool false) = .bool (someB t (cls c) (gp t.gs G) (-1) st) := by
    rw [hMB]
    split
    · rename_i e; rw [e]; rfl
    · rename_i e
      cases e2 : someB t (cls c) (gp t.gs G) (-1) st with
      | false => rfl
      | true => exact absurd e2 e
  refine st_free ?_
  refine ASem.drawAll (fi := ⟨68, [], [4, 27, 34, 62], none, [(9, [0, 1, 0, 0, 8, 0, 56, 120, 0, 511], [(0, false), (2, true), (3, false), (4, true), (5, false), (6, false), (7, true), (8, false), (1, false), (9, false)]), (18, [0, 0, 2, 1, 15, 31], [(0, false), (1, true), (2, false), (3, false), (4, false), (5, false)])]⟩) tab mixed (by decide) ?_
  repeat' (first | refine st_det rfl (by simp (disch := omega) only [go_sem, wr_i64, if_yes, if_no, ↓reduceIte, Nat.reduceAdd, Nat.reduceMul, Nat.reduceEqDiff, Nat.reduceBEq, Nat.reduceLeDiff, hg6]; rfl) ?_ | (refine st_all2 (i := 0) (j := 1) (by decide +kernel) rfl rfl rfl rfl ?_ ?_) | (refine st_all2 (i := 1) (j := 3) (by decide +kernel) rfl rfl rfl rfl ?_ ?_) | (refine st_all2 (i := 2) (j := 3) (by decide +kernel) rfl rfl rfl rfl ?_ ?_) | (refine st_all2 (i := 0) (j := 2) (by decide +kernel) rfl rfl rfl rfl ?_ ?_) | (refine st_all1 (i := 0) (by decide +kernel) rfl rfl ?_) | (refine st_all1 (i := 1) (by decide +kernel) rfl rfl ?_) | (refine st_all1 (i := 2) (by decide +kernel) rfl rfl ?_) | (refine st_all1 (i := 3) (by decide +kernel) rfl rfl ?_) | (refine st_all1 (i := 4) (by decide +kernel) rfl rfl ?_) | (refine st_all1 (i := 5) (by decide +kernel) rfl rfl ?_) | (refine st_allZ (by decide +kernel) ?_) | (refine st_mapGet (l := l) (L := L) (n := -1) Try.underlying129 Try.underlying3 inf4 rfl (by first | (simp only [go_sem, hg6]; rfl) | rfl) (by first | (simp only [go_sem]; rfl) | rfl) (by first | exact hgl | (simp only [go_sem]; exact hgl)) ?_; simp only [hbz, go_sem, ↓reduceIte, Bool.false_eq_true]) | refine st_tN ?_ | refine st_ret ?_)
  all_goals
    simp (disch := omega) only [AEnd, Try.results45, aresK, fin, go_sem, ↓reduceIte, Nat.reduceEqDiff, Nat.reduceAdd, Nat.reduceLeDiff, if_yes, if_no, implies_true, true_and, and_true, List.reverse_cons, List.reverse_nil]
    exact ⟨hS.noL, fun b' hb' => (i3 b' (by omega)).trans (h42 b' hb'), fun l' r hl1 => by show g.lp l' = _; rw [i2]; exact h52 l' r hl1, ansB (h := h) (g := g) (R := fun v => v = .tup [.lst 1 ((whN t (cls c) (gp t.gs G) st t.rooms.length).map iv), .bool (someB t (cls c) (gp t.gs G) (-1) st), .int .i64 0]) (hS.weak (by omega)) rfl⟩
end Go.Proofs.Ythjbfdfhblloiaa

/- Contracts of functions that the claim reaches: what each call gives, told in our own logic. Conditions: those of each theorem. -/
set_option linter.all false
set_option linter.unusedSimpArgs false
set_option linter.unusedVariables false
namespace Go.Proofs.Ythjbfdfhblloiaa
open Go.Av
attribute [local irreducible] thenA blockA awp awpOps awpD awp1
set_option maxHeartbeats 8000000
set_option maxRecDepth 20000
/-! ### All choices, as a list -/
def rowA (r : List Int) : List AV := [.lst 1 (r.map iv)]
def lel (l : List (List Int)) (i : Nat) : List Int := l.getD i []
@[go_sem] theorem rowA_getD {l : List (List Int)} {i : Nat} (h : i < l.length) : (l.map rowA).getD i [] = [.lst 1 ((lel l i).map iv)] := by
  simp [lel, rowA, List.getD_eq_getElem?_getD, h]
def rowsN (bs : Nat → Nat × Nat) (t : List (List Int)) : List (List AV) := (List.range t.length).map fun j => nrow (bs j) ((lel t j).map iv)
theorem lel_app {t : List (List Int)} {r : List Int} {j : Nat} (h : j < t.length) : lel (t ++ [r]) j = lel t j := by
  unfold lel; simp only [List.getD_eq_getElem?_getD]; rw [List.getElem?_append_left h]
theorem lel_last {t : List (List Int)} {r : List Int} : lel (t ++ [r]) t.length = r := by
  unfold lel; simp only [List.getD_eq_getElem?_getD]; simp
/-- The rows that lie in blocks. -/
structure RowsN (n0 : Nat) (g : AH) (v : AV) (bs : Nat → Nat × Nat) (t : List (List Int)) : Prop where
  at_ : ∀ j, j < t.length → g.at_ (bs j) = some ⟨1, (lel t j).map iv⟩
  ge : ∀ j, j < t.length → n0 ≤ (bs j).1
  lt : ∀ j, j < t.length → (bs j).1 < g.clk
  ne : ∀ j, j < t.length → ∀ m, v ≠ .slc (bs j) 1 0 m
  inj : ∀ j k, j < t.length → k < t.length → bs j = bs k → j = k
theorem RowsN.add {n0 k0 d N nn : Nat} {g H G : AH} {v v' : AV} {bs : Nat → Nat × Nat} {t : List (List Int)} {row : List Int} {bb : Nat × Nat} {l : List (List AV)} (hA : AppA n0 k0 d H v 1 nn l v' G) (hR : RowsN n0 g v bs t) (hS : SlA n0 g v 1 (rowsN bs t)) (hH : ∀ b : Bid, b.1 < g.clk → H.at_ b = g.at_ b) (hbb : H.at_ bb = some ⟨1, row.map iv⟩) (hb1 : g.clk ≤ bb.1) (hbN : bb.1 < N) (hbd : bb ≠ (k0, d)) (hk0 : g.clk ≤ k0) (hn0 : n0 ≤ g.clk) : RowsN n0 (G.tick N) v' (fun j => if j = t.length then bb else bs j) (t ++ [row]) := by
  have hlen : (t ++ [row]).length = t.length + 1 := by simp
  have hnew : ∀ b' : Nat × Nat, (∀ m, v' = .slc b' 1 0 m → b' = (k0, d)) := fun b' m e => by
    rcases hA.new with e' | e'
    · rw [e'] at e; cases e
    · rw [e'] at e; injection e with e1; exact e1.symm
  refine ⟨fun j hj => ?_, fun j hj => ?_, fun j hj => ?_, fun j hj m e => ?_, fun j k hj hk e => ?_⟩
  · show G.at_ (if j = t.length then bb else bs j) = _
    by_cases q : j = t.length
    · rw [if_pos q, q, lel_last, hA.keep bb (fun m e => by have := (hS.lt e).2.1; omega) hbd]; exact hbb
    · have hj' : j < t.length := by omega
      have q2 := hR.lt j hj'
      rw [if_neg q, lel_app hj', hA.keep (bs j) (hR.ne j hj') (fun e => by rw [e] at q2; dsimp only at q2; omega), hH _ q2]
      exact hR.at_ j hj'
  · show _ ≤ (if j = t.length then bb else bs j).1
    by_cases q : j = t.length
    · rw [if_pos q]; omega
    · rw [if_neg q]; exact hR.ge j (by omega)
  · show (if j = t.length then bb else bs j).1 < N
    by_cases q : j = t.length
    · rw [if_pos q]; exact hbN
    · rw [if_neg q]; have := hR.lt j (by omega); omega
  · have q1 := hnew _ m e
    by_cases q : j = t.length
    · rw [if_pos q] at q1; exact hbd q1
    · rw [if_neg q] at q1; have := hR.lt j (by omega); rw [q1] at this; dsimp only at this; omega
  · have e : (if j = t.length then bb else bs j) = (if k = t.length then bb else bs k) := e
    by_cases q : j = t.length
    · by_cases q2 : k = t.length
      · omega
      · rw [if_pos q, if_neg q2] at e; have := hR.lt k (by omega); rw [← e] at this; omega
    · by_cases q2 : k = t.length
      · rw [if_neg q, if_pos q2] at e; have := hR.lt j (by omega); rw [e] at this; omega
      · rw [if_neg q, if_neg q2] at e; exact hR.inj j k (by omega) (by omega) e
theorem RowsN.tick {n0 : Nat} {g : AH} {v : AV} {bs : Nat → Nat × Nat} {t : List (List Int)} (hR : RowsN n0 g v bs t) {n : Nat} (hn : g.clk ≤ n) : RowsN n0 (g.tick n) v bs t :=
  ⟨hR.at_, hR.ge, fun j hj => Nat.lt_of_lt_of_le (hR.lt j hj) hn, hR.ne, hR.inj⟩
def chG (n m : Nat) (i : Nat) : List (List Int) := (chs n m (i + 1)).map (((i : Nat) : Int) :: ·)
theorem VLe.lst {e : Nat} {es es' : List (List AV)} (hl : es'.length = es.length) (hr : ∀ c xs, VRss c es xs → VRss c es' xs) (hc : ∀ r ∈ es', r.length = e ∧ r.all AV.cell = true) : VLe (.lst e es) (.lst e es') := by
  intro c x h
  simp only [VR] at h ⊢
  obtain ⟨a, cap, vs, h1, h2, h3, h4, h5, h6⟩ := h
  refine ⟨a, cap, vs, by rw [hl]; exact h1, by rw [hl]; exact h2, fun ea => ?_, hc, h5, hr c vs h6⟩
  have := h3 ea
  subst this
  exact List.length_eq_zero_iff.1 hl
end Go.Proofs.Ythjbfdfhblloiaa

/- Contracts of functions that the claim reaches: what each call gives, told in our own logic. Conditions: those of each theorem. -/
set_option linter.all false
set_option linter.unusedSimpArgs false
set_option linter.unusedVariables false
namespace Go.Proofs.Ythjbfdfhblloiaa
open Go.Av
attribute [local irreducible] thenA blockA awp awpOps awpD awp1
set_option maxHeartbeats 8000000
set_option maxRecDepth 20000
/-! ### CrowdFewest -/
theorem chs_ok {t : Tw} {n : Nat} : ∀ (m a : Nat) (x : List Int), x ∈ chs n m a → x.length = m ∧ (∀ i, i < x.length → (a : Int) ≤ elt x i ∧ elt x i < n) ∧ ∀ i, 0 < i → i < x.length → elt x (i - 1) < elt x i
  | 0, a, x, hx => by
    have : x = [] := by simpa [chs] using hx
    subst this
    exact ⟨rfl, fun i hi => absurd hi (Nat.not_lt_zero _), fun i _ hi => absurd hi (Nat.not_lt_zero _)⟩
  | m + 1, a, x, hx => by
    have key : ∀ k, a + k ≤ n ∨ k = 0 → x ∈ catK (chG n m) a k → ∃ j y, a ≤ j ∧ j < n ∧ x = ((j : Nat) : Int) :: y ∧ y ∈ chs n m (j + 1) := by
      intro k
      induction k with
      | zero => intro _ h; cases h
      | succ k ih =>
        intro hk h
        rcases List.mem_append.1 (show x ∈ catK (chG n m) a k ++ chG n m (a + k) from h) with h | h
        · exact ih (by omega) h
        · unfold chG at h
          obtain ⟨y, hy, rfl⟩ := List.mem_map.1 h
          exact ⟨a + k, y, by omega, by omega, rfl, hy⟩
    obtain ⟨j, y, h1, h2, rfl, h3⟩ := key (n - a) (by omega) hx
    obtain ⟨q1, q2, q3⟩ := chs_ok (t := t) m (j + 1) y h3
    have e0 : elt (((j : Nat) : Int) :: y) 0 = j := rfl
    have es : ∀ i, elt (((j : Nat) : Int) :: y) (i + 1) = elt y i := fun i => rfl
    refine ⟨by simp [q1], fun i hi => ?_, fun i h0 hi => ?_⟩
    · cases i with
      | zero => rw [e0]; omega
      | succ i => rw [es]; have := q2 i (by simpa using hi); omega
    · obtain ⟨i, rfl⟩ : ∃ i', i = i' + 1 := ⟨i - 1, by omega⟩
      rw [Nat.add_sub_cancel, es]
      cases i with
      | zero => rw [e0]; have := q2 0 (by simpa using hi); omega
      | succ i => rw [es]; have := q3 (i + 1) (by omega) (by simpa using hi); simpa using this
end Go.Proofs.Ythjbfdfhblloiaa

/- Contracts of functions that the claim reaches: what each call gives, told in our own logic. Conditions: those of each theorem. -/
set_option linter.all false
set_option linter.unusedSimpArgs false
set_option linter.unusedVariables false
namespace Go.Proofs.Ythjbfdfhblloiaa
open Go.Av
set_option maxRecDepth 20000
/-! ### Where a group may be and must be, plain -/
theorem someB_iff {t : Tw} {s : Nat → Int} {g : Gp} {q st : Int} : someB t s g q st = true ↔ ∃ c, g.alo ≤ c ∧ c ≤ g.ahi ∧ plc t s g c st = q := by
  unfold someB
  rw [List.any_eq_true]
  constructor
  · rintro ⟨i, hi, h⟩
    have := List.mem_range.1 hi
    exact ⟨g.alo + i, by omega, by omega, of_decide_eq_true h⟩
  · rintro ⟨c, h1, h2, h3⟩
    exact ⟨(c - g.alo).toNat, List.mem_range.2 (by omega), decide_eq_true (by rw [show g.alo + (((c - g.alo).toNat : Nat) : Int) = c by omega]; exact h3)⟩
theorem allB_iff {t : Tw} {s : Nat → Int} {g : Gp} {q st : Int} : allB t s g q st = true ↔ ∀ c, g.alo ≤ c → c ≤ g.ahi → plc t s g c st = q := by
  unfold allB
  rw [List.all_eq_true]
  constructor
  · intro h c h1 h2
    have := of_decide_eq_true (h (c - g.alo).toNat (List.mem_range.2 (by omega)))
    rw [show g.alo + (((c - g.alo).toNat : Nat) : Int) = c by omega] at this
    exact this
  · intro h i hi
    have := List.mem_range.1 hi
    exact decide_eq_true (h _ (by omega) (by omega))
theorem sumF_le {F G : Nat → Int} : ∀ {n : Nat}, (∀ i, i < n → F i ≤ G i) → sumF F n ≤ sumF G n
  | 0, _ => Int.le_refl _
  | n + 1, h => by
    have h1 := sumF_le (n := n) fun i hi => h i (by omega)
    have h2 := h n (by omega)
    show sumF F n + F n ≤ sumF G n + G n
    omega
end Go.Proofs.Ythjbfdfhblloiaa
