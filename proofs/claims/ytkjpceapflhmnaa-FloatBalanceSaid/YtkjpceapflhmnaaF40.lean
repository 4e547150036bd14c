/- Contracts of functions that the claim reaches: what each call gives, told in our own logic. Conditions: those of each theorem. -/
import Derived.Test.YtkjpceapflhmnaaF38
import Derived.Test.YtkjpceapflhmnaaF39
import Derived.Test.YtkjpceapflhmnaaF35
set_option linter.all false
set_option linter.unusedSimpArgs false
set_option linter.unusedVariables false
namespace Go.Proofs.Ytkjpceapflhmnaa
open Go.Av
section
variable {P : Program} {tt : Nat → TI} {fi : FI}
/-- Boxes that say less. -/
theorem ASem.leB {r : Option Nat} {n : Nat} {code : Code} {Q : Exit → AS → Prop} {T : Nat → AV} {B B' : Bid → Option (List AV)} {M : List Nat} {H : AH}
    (hB : ∀ id cs', B' id = some cs' → ∃ cs, B id = some cs ∧ VLes cs cs' ∧ (cs.all AV.cell = true → cs'.all AV.cell = true)) (h : ASem P r n code Q ⟨T, B', M, H⟩) : ASem P r n code Q ⟨T, B, M, H⟩ := by
  intro c0 h0 c lb a S
  refine h c0 h0 c lb a ⟨S.hr, ⟨S.fr.size, S.fr.tmps, S.fr.defers, S.fr.marks, fun id cs' hcs => ?_, S.fr.lbclk, S.fr.lbinj, S.fr.lbsize⟩, S.evo, S.new, S.dn, S.mnew⟩
  obtain ⟨cs, hcs0, e, ec⟩ := hB id cs' hcs
  obtain ⟨b1, xs, ty, g1, g2, g3, g4, g5, g6⟩ := S.fr.box id cs hcs0
  exact ⟨b1, xs, ty, g1, g2, g3, g4, e.rel g5, ec g6⟩
theorem VLes.app : ∀ (l : List AV) {v v' : AV}, VLe v v' → VLes (l ++ [v]) (l ++ [v'])
  | [], _, _, h => by simp only [List.nil_append, VLes]; exact ⟨_, _, rfl, h, rfl⟩
  | x :: l, _, _, h => by simp only [List.cons_append, VLes]; exact ⟨x, _, rfl, VLe.refl x, VLes.app l h⟩
/-- A box whose last cell is a heap slice, or nil: the slice is given away. -/
theorem ASem.cutB {r : Option Nat} {n : Nat} {code : Code} {Q : Exit → AS → Prop} {T : Nat → AV} {B : Bid → Option (List AV)} {M : List Nat} {H : AH} {id : Bid} {pre : List AV} (z : Nat) {l : List (List AV)}
    (hpre : ∀ b k, frzs b k pre = pre) (hd : (l = [] ∧ B id = some (pre ++ [.nils])) ∨ ∃ b, B id = some (pre ++ [.slc b z 0 l.length]) ∧ H.at_ b = some ⟨z, l⟩)
    (h : ∀ H', ASem P r n code Q ⟨T, upd B id (some (pre ++ [.lst z l])), M, H'⟩) : ASem P r n code Q ⟨T, B, M, H⟩ := by
  rcases hd with ⟨rfl, h1⟩ | ⟨b, h1, h2⟩
  · refine ASem.leB (fun i cs' hcs => ?_) (h H)
    by_cases e : i = id
    · subst e
      rw [upd_same] at hcs
      refine ⟨_, h1, ?_, ?_⟩
      · rw [← Option.some.inj hcs]; exact VLes.app pre (VLe.nils z)
      · rw [← Option.some.inj hcs]; simp [AV.cell]
    · rw [upd_ne _ _ e] at hcs
      exact ⟨cs', hcs, VLes.refl cs', fun h => h⟩
  · refine ASem.frzB (T' := T) (B' := upd B id (some (pre ++ [.lst z l]))) h2 (fun _ => .inl rfl) (fun i cs' hid => ?_) (h _)
    by_cases e : i = id
    · subst e
      rw [upd_same] at hid
      refine ⟨_, h1, .inr ?_⟩
      rw [← Option.some.inj hid]
      have e2 : frzs b ⟨z, l⟩ (pre ++ [.slc b z 0 l.length]) = frzs b ⟨z, l⟩ pre ++ [.lst z l] := by
        rw [frzs_map, frzs_map, List.map_append]
        simp [frz]
      rw [e2, hpre]
    · rw [upd_ne _ _ e] at hid
      exact ⟨_, hid, .inl rfl⟩
end
attribute [local irreducible] thenA blockA awp awpOps awpD awp1
set_option maxHeartbeats 8000000
set_option maxRecDepth 20000
@[go_sem] theorem Fl.own0_eq (f : Fl) : f.own0 = .agg [.int .i64 f.len, .int .i64 f.wid, .int .i64 f.front, .int .i64 f.rear, .int .i64 f.turn, .int .i64 f.kilos, .int .i64 f.mid, .int .i64 f.high, .nils] := rfl
def fpre (f : Fl) : List AV := [.int .i64 f.len, .int .i64 f.wid, .int .i64 f.front, .int .i64 f.rear, .int .i64 f.turn, .int .i64 f.kilos, .int .i64 f.mid, .int .i64 f.high]
theorem fpre_frz (f : Fl) (b : Bid) (k : Blk) : frzs b k (fpre f) = fpre f := rfl
/-- What the loop that makes weights known keeps. -/
structure Kn (f : Fl) (i : Nat) (ys : List Ld) : Prop where
  len : ys.length = f.loads.length
  good : ∀ x ∈ ys, LdGood f x
  kn : ∀ j, j < i → (ld ys j).lo = (ld ys j).hi
theorem ld_idx {l : List Ld} {x : Ld} (h : x ∈ l) : ∃ i, i < l.length ∧ ld l i = x := by
  obtain ⟨i, hi, rfl⟩ := List.mem_iff_getElem.1 h
  exact ⟨i, hi, by unfold ld; rw [List.getD_eq_getElem?_getD, List.getElem?_eq_getElem hi]; rfl⟩
theorem Kn.step {f : Fl} {i : Nat} {ys : List Ld} {r : Int} (h : Kn f i ys) (hi : i < f.loads.length) (hr : (ld ys i).lo ≤ r ∧ r ≤ (ld ys i).hi) :
    Kn f (i + 1) (ys.set i ⟨(ld ys i).at_, r, r, (ld ys i).tlo, (ld ys i).thi, (ld ys i).kind, (ld ys i).watts⟩) := by
  have hl := h.len
  refine ⟨by rw [List.length_set]; exact hl, fun x hx => ?_, fun j hj => ?_⟩
  · rcases List.mem_or_eq_of_mem_set hx with h1 | rfl
    · exact h.good x h1
    · have g := h.good _ (ld_mem (l := ys) (i := i) (by omega))
      have g2 := g.kilos
      exact ⟨g.at_, ⟨by dsimp only; omega, Int.le_refl _, by dsimp only; omega⟩, g.top, g.kind, g.watts⟩
  · by_cases e : j = i
    · subst e; rw [ld_set_eq (by omega)]
    · rw [ld_set_ne e]; exact h.kn j (by omega)
theorem Kn.fin {f : Fl} {n : Int} {ys : List Ld} (hf : FlGood f n) (h : Kn f f.loads.length ys) : FlGood (setL f ys) n ∧ Known (setL f ys).loads := by
  refine ⟨⟨hf.len, hf.wid, hf.axles, hf.turn, hf.kilos, hf.mid, hf.high, ?_, fun y hy => ?_⟩, fun y hy => ?_⟩
  · show (ys.length : Int) ≤ n
    rw [h.len]; exact hf.many
  · have g := h.good y hy
    exact ⟨g.at_, g.kilos, g.top, g.kind, g.watts⟩
  · obtain ⟨i, hi, rfl⟩ := ld_idx hy
    exact h.kn i (by have h1 := h.len; have h2 : i < ys.length := hi; omega)
theorem good_turn {f : Fl} {n : Int} (hf : FlGood f n) : FlGood (turnF f) n := by
  have h1 := hf.len; have h2 := hf.axles; have h3 := hf.mid
  refine ⟨hf.len, hf.wid, ⟨?_, ?_, ?_⟩, hf.turn, hf.kilos, ⟨?_, ?_⟩, hf.high, ?_, fun y hy => ?_⟩
  · show 0 ≤ f.len - f.rear; omega
  · show f.len - f.rear < f.len - f.front; omega
  · show f.len - f.front ≤ f.len; omega
  · show 0 ≤ f.len - f.mid; omega
  · show f.len - f.mid ≤ f.len; omega
  · show ((turnL f.len f.loads).length : Int) ≤ n
    unfold turnL; rw [List.length_map]; exact hf.many
  · obtain ⟨x, hx, rfl⟩ := List.mem_map.1 (show y ∈ f.loads.map (fun x => { x with at_ := f.len - x.at_ }) from hy)
    have g := hf.loads x hx
    have g1 := g.at_
    exact ⟨⟨by show f.len - f.rear ≤ f.len - x.at_; omega, by show f.len - x.at_ ≤ f.len - f.front; omega⟩, g.kilos, g.top, g.kind, g.watts⟩
def turnUp (len : Int) (l : List Ld) (i : Nat) : List Ld := turnL len (l.take i) ++ l.drop i
theorem turnUp_len (len : Int) (l : List Ld) (i : Nat) : (turnUp len l i).length = l.length := by simp [turnUp, turnL]; omega
theorem turnUp_ld {len : Int} {l : List Ld} {i : Nat} (h : i ≤ l.length) : ld (turnUp len l i) i = ld l i := by
  unfold ld turnUp
  simp only [List.getD_eq_getElem?_getD]
  rw [List.getElem?_append_right (by simp [turnL]; omega)]
  have e : i - (turnL len (l.take i)).length = 0 := by simp [turnL]; omega
  rw [e, List.getElem?_drop]; rfl
theorem turnUp_set {len : Int} {l : List Ld} {i : Nat} (h : i < l.length) : (turnUp len l i).set i ⟨len - (ld l i).at_, (ld l i).lo, (ld l i).hi, (ld l i).tlo, (ld l i).thi, (ld l i).kind, (ld l i).watts⟩ = turnUp len l (i + 1) := by
  have hd : l.drop i = ld l i :: l.drop (i + 1) := drop_ld h
  have ht : l.take (i + 1) = l.take i ++ [ld l i] := by
    rw [List.take_succ_eq_append_getElem h]
    simp [ld, List.getD_eq_getElem?_getD, h]
  unfold turnUp
  rw [hd, List.set_append_right _ _ (by simp [turnL]; omega)]
  have e : i - (turnL len (l.take i)).length = 0 := by simp [turnL]; omega
  rw [e, ht]
  simp [turnL]
structure KS where
  i : Nat
  x : Int
  ys : List Ld
def KS.hp (h : AH) (b bb : Nat × Nat) (a : KS) : AH := (h.put b (dr a.x)).put bb (some ⟨7, a.ys.map Ld.row⟩)
theorem hold_k0 {h : AH} {m : Nat} {b bb : Nat × Nat} {d k : Option Blk} (hd : h.at_ b = d) (hk : h.at_ bb = k) (hn : h.clk ≤ m) : HOld ((h.put b d).put bb k) (h.tick m) := by
  refine ⟨fun z k2 hz => ?_, fun _ _ e => e, hn⟩
  simp only [AH.put, upd_apply, AH.tick] at hz ⊢
  by_cases e : z = bb
  · subst e; rw [hk]; simpa using hz
  · by_cases e2 : z = b
    · subst e2; rw [hd]; simpa [e] using hz
    · simpa [e, e2] using hz
theorem hold_k1 {h : AH} {m : Nat} {b : Nat × Nat} {k : Option Blk} (hk : h.at_ b = k) (hn : h.clk ≤ m) : HOld (h.put b k) (h.tick m) := by
  refine ⟨fun z k2 hz => ?_, fun _ _ e => e, hn⟩
  simp only [AH.put, upd_apply, AH.tick] at hz ⊢
  by_cases e : z = b
  · subst e; rw [hk]; simpa using hz
  · simpa [e] using hz
theorem c37t (f : Fl) (h0 : chkE (turnF f) = 0) : Pure Try.prog 37 [(turnF f).av] (fun v => v = .tup [.agg [.int .i64 (wL oneA f 0 0), .int .i64 (wH oneA f 0 0)], .int .i64 0]) := by
  have h := c37 (turnF f) h0
  obtain ⟨e1, e2⟩ := turn_W f oneA oneA (fun _ => rfl)
  rwa [e1, e2] at h
theorem c38t (f : Fl) (h0 : chkE (turnF f) = 0) : Pure Try.prog 38 [(turnF f).av] (fun v => v = .tup [.agg [.int .i64 (downI (wL (rearA f) f 0 0) (f.rear - f.front)), .int .i64 (upI (wH (rearA f) f 0 0) (f.rear - f.front))],
    .agg [.int .i64 (downI (wL (frontA f) f 0 0) (f.rear - f.front)), .int .i64 (upI (wH (frontA f) f 0 0) (f.rear - f.front))], .int .i64 0]) := by
  have h := c38g (turnF f) h0
  obtain ⟨e1, e2⟩ := turn_W f (rearA f) (frontA (turnF f)) (fun a => by show (f.len - f.front) - (f.len - a) = a - f.front; omega)
  obtain ⟨e3, e4⟩ := turn_W f (frontA f) (rearA (turnF f)) (fun a => by show (f.len - a) - (f.len - f.rear) = f.rear - a; omega)
  have e5 : (turnF f).rear - (turnF f).front = f.rear - f.front := by show (f.len - f.front) - (f.len - f.rear) = _; omega
  rwa [e1, e2, e3, e4, e5] at h
theorem c43t (f : Fl) (h0 : chkE (turnF f) = 0) : Pure Try.prog 43 [(turnF f).av] (fun v => v = .tup [.agg [.int .i64 (tl f.high f.loads), .int .i64 (th f.high f.loads)], .int .i64 0]) := by
  have h := c43 (turnF f) h0
  obtain ⟨e1, e2⟩ := turn_t f
  rwa [e1, e2] at h
theorem hold6' {h : AH} {m : Nat} {b bb : Nat × Nat} {d d' k k' : Option Blk} (hn : h.clk ≤ m) : HOld ((h.put b d').put bb k') (((((h.tick m).put b d).put bb k).put b d').put bb k') := by
  refine ⟨fun z k2 hz => ?_, fun _ _ e => e, hn⟩
  simp only [AH.put, upd_apply, AH.tick] at hz ⊢
  by_cases e : z = bb
  · simpa [e] using hz
  · by_cases e2 : z = b
    · simpa [e, e2] using hz
    · simpa [e, e2] using hz
theorem law7 (l : List Int) (hl : (l.length : Int) ≤ 9223372036854775807) (h : AH) : ACalls Try.prog 7 [.lst 1 (l.map iv)] h (fun v _ => v = .bool true) := by
  refine ACalls.old Try.call7 fun hall => ?_
  refine ACalls.ofS tab Try.call7 Try.func7 rfl (fi := ⟨208, [4, 8, 10, 12, 13, 15, 16, 18, 20], [], none, [(6, [0, 1, 0, 0, 0, 16, 0, 112, 240, 496, 1016, 2040, 4095, 8191, 16383], [(0, false), (1, true), (2, false), (3, false), (4, false), (5, true), (6, false), (7, false), (8, false), (9, false), (10, false), (11, false), (12, false), (13, false), (14, true)]), (8, [0, 1, 0, 4, 15, 0, 32, 0, 128, 480, 0, 1024, 0, 4096, 15360, 31, 32799, 99327, 230399, 524287, 1048575], [(0, false), (1, true), (2, false), (3, true), (4, false), (5, false), (6, true), (7, false), (8, true), (9, false), (10, false), (11, true), (12, false), (13, true), (14, false), (15, false), (16, true), (17, false), (18, true), (19, false), (20, true)]), (12, [0, 1, 0, 0, 8, 0, 32, 0, 224, 480, 992, 2040, 4095, 8191, 16383], [(0, false), (1, false), (2, false), (3, false), (4, true), (5, false), (6, true), (7, false), (8, false), (9, false), (10, true), (11, false), (12, false), (13, false), (14, true)]), (21, [0, 1, 0, 4, 15, 0, 32, 0, 128, 480, 31, 2047], [(0, false), (1, true), (2, false), (3, true), (4, false), (5, false), (6, true), (7, false), (8, true), (9, false), (10, false), (11, false)])]⟩) rfl rfl (Nat.le_of_ble_eq_true rfl) ?_
  unfold startA
  refine asem_seq (fi := ⟨208, [4, 8, 10, 12, 13, 15, 16, 18, 20], [], none, [(6, [0, 1, 0, 0, 0, 16, 0, 112, 240, 496, 1016, 2040, 4095, 8191, 16383], [(0, false), (1, true), (2, false), (3, false), (4, false), (5, true), (6, false), (7, false), (8, false), (9, false), (10, false), (11, false), (12, false), (13, false), (14, true)]), (8, [0, 1, 0, 4, 15, 0, 32, 0, 128, 480, 0, 1024, 0, 4096, 15360, 31, 32799, 99327, 230399, 524287, 1048575], [(0, false), (1, true), (2, false), (3, true), (4, false), (5, false), (6, true), (7, false), (8, true), (9, false), (10, false), (11, true), (12, false), (13, true), (14, false), (15, false), (16, true), (17, false), (18, true), (19, false), (20, true)]), (12, [0, 1, 0, 0, 8, 0, 32, 0, 224, 480, 992, 2040, 4095, 8191, 16383], [(0, false), (1, false), (2, false), (3, false), (4, true), (5, false), (6, true), (7, false), (8, false), (9, false), (10, true), (11, false), (12, false), (13, false), (14, true)]), (21, [0, 1, 0, 4, 15, 0, 32, 0, 128, 480, 31, 2047], [(0, false), (1, true), (2, false), (3, true), (4, false), (5, false), (6, true), (7, false), (8, true), (9, false), (10, false), (11, false)])]⟩) tab mixed (by decide) ?_
  repeat' (first
      | refine st_seq_reg rfl (by first | (simp only [go_sem]; rfl) | rfl) (by first | (simp only [go_sem]; rfl) | rfl) ?_
      | refine st_reg rfl (by first | (simp only [go_sem]; rfl) | rfl) (by first | (simp only [go_sem]; rfl) | rfl) ?_
      | refine st_seq_draw rfl (by first | (simp only [go_sem]; rfl) | rfl) (by first | (simp only [go_sem]; rfl) | rfl) ?_
      | refine st_draw rfl (by first | (simp only [go_sem]; rfl) | rfl) (by first | (simp only [go_sem]; rfl) | rfl) ?_
      | refine st_op ?_
      | refine st_det rfl (by simp (disch := omega) only [go_sem, wr_i64, if_yes, if_no, ↓reduceIte, Nat.reduceAdd, Nat.reduceMul, Nat.reduceEqDiff, Nat.reduceBEq, Nat.reduceLeDiff]; rfl) ?_
      | refine st_dop rfl ?_
      | refine st_loc rfl (by simp (disch := omega) only [go_sem, wr_i64, if_yes, if_no, ↓reduceIte, Nat.reduceAdd, Nat.reduceMul, Nat.reduceEqDiff, Nat.reduceBEq, Nat.reduceLeDiff]; rfl) ?_
      | refine st_heap rfl (by simp (disch := omega) only [go_sem, wr_i64, if_yes, if_no, ↓reduceIte, Nat.reduceAdd, Nat.reduceMul, Nat.reduceEqDiff, Nat.reduceBEq, Nat.reduceLeDiff]; rfl) ?_
      | refine st_store (by simp (disch := omega) only [go_sem, wr_i64, if_yes, if_no, ↓reduceIte, Nat.reduceAdd, Nat.reduceMul, Nat.reduceEqDiff, Nat.reduceBEq, Nat.reduceLeDiff]; rfl) ?_
      | refine st_append (by simp (disch := omega) only [go_sem, wr_i64, if_yes, if_no, ↓reduceIte, Nat.reduceAdd, Nat.reduceMul, Nat.reduceEqDiff, Nat.reduceBEq, Nat.reduceLeDiff]; rfl) ?_
      | refine st_gT rfl rfl rfl ?_
      | refine st_gF rfl rfl rfl ?_
      | refine st_dgT rfl rfl rfl rfl ?_
      | refine st_dgF rfl rfl rfl ?_
      | (refine st_gS rfl rfl ?_ ?_ <;> intro hg <;> (try simp only [decide_eq_true_eq, decide_eq_false_iff_not, Bool.not_eq_true', Bool.not_eq_false'] at hg))
      | (refine st_dgS rfl rfl ?_ ?_ <;> intro hg <;> (try simp only [decide_eq_true_eq, decide_eq_false_iff_not, Bool.not_eq_true', Bool.not_eq_false'] at hg))
      | refine st_condT rfl ?_
      | refine st_condF rfl ?_
      | (refine st_condS rfl ?_ ?_ <;> intro hg <;> (try simp only [decide_eq_true_eq, decide_eq_false_iff_not, Bool.not_eq_true', Bool.not_eq_false'] at hg))
      | refine st_nil ?_
      | refine st_dnil ?_
      | refine st_tN ?_
      | refine st_seq ?_
      | refine st_block ?_
      | refine st_skip ?_
      | refine st_exit ?_
      | refine st_ret ?_
      | refine st_tE ?_
      | refine st_tR ?_
      | refine st_bN ?_
      | refine st_bR ?_
      | refine st_bH ?_
      | refine st_bM rfl ?_)
  refine asem_seq (fi := ⟨208, [4, 8, 10, 12, 13, 15, 16, 18, 20], [], none, [(6, [0, 1, 0, 0, 0, 16, 0, 112, 240, 496, 1016, 2040, 4095, 8191, 16383], [(0, false), (1, true), (2, false), (3, false), (4, false), (5, true), (6, false), (7, false), (8, false), (9, false), (10, false), (11, false), (12, false), (13, false), (14, true)]), (8, [0, 1, 0, 4, 15, 0, 32, 0, 128, 480, 0, 1024, 0, 4096, 15360, 31, 32799, 99327, 230399, 524287, 1048575], [(0, false), (1, true), (2, false), (3, true), (4, false), (5, false), (6, true), (7, false), (8, true), (9, false), (10, false), (11, true), (12, false), (13, true), (14, false), (15, false), (16, true), (17, false), (18, true), (19, false), (20, true)]), (12, [0, 1, 0, 0, 8, 0, 32, 0, 224, 480, 992, 2040, 4095, 8191, 16383], [(0, false), (1, false), (2, false), (3, false), (4, true), (5, false), (6, true), (7, false), (8, false), (9, false), (10, true), (11, false), (12, false), (13, false), (14, true)]), (21, [0, 1, 0, 4, 15, 0, 32, 0, 128, 480, 31, 2047], [(0, false), (1, true), (2, false), (3, true), (4, false), (5, false), (6, true), (7, false), (8, true), (9, false), (10, false), (11, false)])]⟩) tab mixed (by decide) ?_
  repeat' (first
      | refine st_seq_reg rfl (by first | (simp only [go_sem]; rfl) | rfl) (by first | (simp only [go_sem]; rfl) | rfl) ?_
      | refine st_reg rfl (by first | (simp only [go_sem]; rfl) | rfl) (by first | (simp only [go_sem]; rfl) | rfl) ?_
      | refine st_seq_draw rfl (by first | (simp only [go_sem]; rfl) | rfl) (by first | (simp only [go_sem]; rfl) | rfl) ?_
      | refine st_draw rfl (by first | (simp only [go_sem]; rfl) | rfl) (by first | (simp only [go_sem]; rfl) | rfl) ?_
      | refine st_op ?_
      | refine st_det rfl (by simp (disch := omega) only [go_sem, wr_i64, if_yes, if_no, ↓reduceIte, Nat.reduceAdd, Nat.reduceMul, Nat.reduceEqDiff, Nat.reduceBEq, Nat.reduceLeDiff]; rfl) ?_
      | refine st_dop rfl ?_
      | refine st_loc rfl (by simp (disch := omega) only [go_sem, wr_i64, if_yes, if_no, ↓reduceIte, Nat.reduceAdd, Nat.reduceMul, Nat.reduceEqDiff, Nat.reduceBEq, Nat.reduceLeDiff]; rfl) ?_
      | refine st_heap rfl (by simp (disch := omega) only [go_sem, wr_i64, if_yes, if_no, ↓reduceIte, Nat.reduceAdd, Nat.reduceMul, Nat.reduceEqDiff, Nat.reduceBEq, Nat.reduceLeDiff]; rfl) ?_
      | refine st_store (by simp (disch := omega) only [go_sem, wr_i64, if_yes, if_no, ↓reduceIte, Nat.reduceAdd, Nat.reduceMul, Nat.reduceEqDiff, Nat.reduceBEq, Nat.reduceLeDiff]; rfl) ?_
      | refine st_append (by simp (disch := omega) only [go_sem, wr_i64, if_yes, if_no, ↓reduceIte, Nat.reduceAdd, Nat.reduceMul, Nat.reduceEqDiff, Nat.reduceBEq, Nat.reduceLeDiff]; rfl) ?_
      | (refine st_callf rfl rfl (c14 l hl _) ?_; rintro v h' ⟨b, x, n, rfl, hb1, hb2, hu0, rfl⟩)
      | refine st_gT rfl rfl rfl ?_
      | refine st_gF rfl rfl rfl ?_
      | refine st_dgT rfl rfl rfl rfl ?_
      | refine st_dgF rfl rfl rfl ?_
      | (refine st_gS rfl rfl ?_ ?_ <;> intro hg <;> (try simp only [decide_eq_true_eq, decide_eq_false_iff_not, Bool.not_eq_true', Bool.not_eq_false'] at hg))
      | (refine st_dgS rfl rfl ?_ ?_ <;> intro hg <;> (try simp only [decide_eq_true_eq, decide_eq_false_iff_not, Bool.not_eq_true', Bool.not_eq_false'] at hg))
      | refine st_condT rfl ?_
      | refine st_condF rfl ?_
      | (refine st_condS rfl ?_ ?_ <;> intro hg <;> (try simp only [decide_eq_true_eq, decide_eq_false_iff_not, Bool.not_eq_true', Bool.not_eq_false'] at hg))
      | refine st_nil ?_
      | refine st_dnil ?_
      | refine st_tN ?_
      | refine st_seq ?_
      | refine st_block ?_
      | refine st_skip ?_
      | refine st_exit ?_
      | refine st_ret ?_
      | refine st_tE ?_
      | refine st_tR ?_
      | refine st_bN ?_
      | refine st_bR ?_
      | refine st_bH ?_
      | refine st_bM rfl ?_)
  refine asem_seqK tab mixed (fun s' => ∃ (qq : Nat) (f : Fl) (x1 : Int), s'.tmp 3 = .ptr b 0 0 ∧ s'.tmp 4 = .lptr (qq, 4) 0 ∧ s'.mks = [] ∧ b.1 < s'.h.clk ∧ FlGood f 6 ∧ isU64 x1 ∧ s'.h.at_ b = dr x1 ∧ ((f.loads = [] ∧ s'.box (qq, 4) = some (fpre f ++ [.nils])) ∨ ∃ bb, ¬ bb = b ∧ bb.1 < s'.h.clk ∧ s'.box (qq, 4) = some (fpre f ++ [.slc bb 7 0 f.loads.length]) ∧ s'.h.at_ bb = some ⟨7, f.loads.map Ld.row⟩)) (by decide) ?_ ?_
  · repeat' (first
        | refine st_seq_reg rfl (by first | (simp only [go_sem]; rfl) | rfl) (by first | (simp only [go_sem]; rfl) | rfl) ?_
        | refine st_reg rfl (by first | (simp only [go_sem]; rfl) | rfl) (by first | (simp only [go_sem]; rfl) | rfl) ?_
        | refine st_seq_draw rfl (by first | (simp only [go_sem]; rfl) | rfl) (by first | (simp only [go_sem]; rfl) | rfl) ?_
        | refine st_draw rfl (by first | (simp only [go_sem]; rfl) | rfl) (by first | (simp only [go_sem]; rfl) | rfl) ?_
        | refine st_op ?_
        | refine st_det rfl (by simp (disch := omega) only [go_sem, wr_i64, if_yes, if_no, ↓reduceIte, Nat.reduceAdd, Nat.reduceMul, Nat.reduceEqDiff, Nat.reduceBEq, Nat.reduceLeDiff]; rfl) ?_
        | refine st_dop rfl ?_
        | refine st_loc rfl (by simp (disch := omega) only [go_sem, wr_i64, if_yes, if_no, ↓reduceIte, Nat.reduceAdd, Nat.reduceMul, Nat.reduceEqDiff, Nat.reduceBEq, Nat.reduceLeDiff]; rfl) ?_
        | refine st_heap rfl (by simp (disch := omega) only [go_sem, wr_i64, if_yes, if_no, ↓reduceIte, Nat.reduceAdd, Nat.reduceMul, Nat.reduceEqDiff, Nat.reduceBEq, Nat.reduceLeDiff]; rfl) ?_
        | refine st_store (by simp (disch := omega) only [go_sem, wr_i64, if_yes, if_no, ↓reduceIte, Nat.reduceAdd, Nat.reduceMul, Nat.reduceEqDiff, Nat.reduceBEq, Nat.reduceLeDiff]; rfl) ?_
        | refine st_append (by simp (disch := omega) only [go_sem, wr_i64, if_yes, if_no, ↓reduceIte, Nat.reduceAdd, Nat.reduceMul, Nat.reduceEqDiff, Nat.reduceBEq, Nat.reduceLeDiff]; rfl) ?_
        | (refine st_callf rfl rfl (c15h b 6 (by omega) _ x (by simp only [go_sem, ↓reduceIte]) hu0) ?_; rintro v h' ⟨f, x', n1, hf, hu', hn, ⟨e0, rfl, rfl⟩ | ⟨bb, rfl, hb3, hb4, rfl⟩⟩)
        | refine st_gT rfl rfl rfl ?_
        | refine st_gF rfl rfl rfl ?_
        | refine st_dgT rfl rfl rfl rfl ?_
        | refine st_dgF rfl rfl rfl ?_
        | (refine st_gS rfl rfl ?_ ?_ <;> intro hg <;> (try simp only [decide_eq_true_eq, decide_eq_false_iff_not, Bool.not_eq_true', Bool.not_eq_false'] at hg))
        | (refine st_dgS rfl rfl ?_ ?_ <;> intro hg <;> (try simp only [decide_eq_true_eq, decide_eq_false_iff_not, Bool.not_eq_true', Bool.not_eq_false'] at hg))
        | refine st_condT rfl ?_
        | refine st_condF rfl ?_
        | (refine st_condS rfl ?_ ?_ <;> intro hg <;> (try simp only [decide_eq_true_eq, decide_eq_false_iff_not, Bool.not_eq_true', Bool.not_eq_false'] at hg))
        | refine st_nil ?_
        | refine st_dnil ?_
        | refine st_tN ?_
        | refine st_seq ?_
        | refine st_block ?_
        | refine st_skip ?_
        | refine st_exit ?_
        | refine st_ret ?_
        | refine st_tE ?_
        | refine st_tR ?_
        | refine st_bN ?_
        | refine st_bR ?_
        | refine st_bH ?_
        | refine st_bM rfl ?_)
    · have hn' : n + 1 ≤ n1 := hn
      refine ⟨_, f, x', rfl, rfl, rfl, ?_, hf, hu', ?_, .inl ⟨e0, ?_⟩⟩
      · simp only [go_sem]; omega
      · simp only [go_sem, ↓reduceIte]
      · (simp only [go_sem, ↓reduceIte] <;> rfl)
    · have hn' : n + 1 ≤ n1 := hn
      have hb3' : n + 1 ≤ bb.1 := hb3
      have hbb : ¬ bb = b := fun e' => by rw [e'] at hb3'; omega
      refine ⟨_, f, x', rfl, rfl, rfl, ?_, hf, hu', ?_, .inr ⟨bb, hbb, ?_, ?_, ?_⟩⟩
      · simp only [go_sem]; omega
      · simp only [go_sem, ↓reduceIte]
      · simp only [go_sem]; omega
      · (simp only [go_sem, ↓reduceIte] <;> rfl)
      · simp only [go_sem, ↓reduceIte, hbb]
  · rintro ⟨T, B, M, H⟩ ⟨qq, f, x1, g3, g4, gm, gk, hf, hx1, gb, gx⟩
    dsimp only at g3 g4 gm gk gb gx
    subst gm
    refine asem_seqK (fi := ⟨208, [4, 8, 10, 12, 13, 15, 16, 18, 20], [], none, [(6, [0, 1, 0, 0, 0, 16, 0, 112, 240, 496, 1016, 2040, 4095, 8191, 16383], [(0, false), (1, true), (2, false), (3, false), (4, false), (5, true), (6, false), (7, false), (8, false), (9, false), (10, false), (11, false), (12, false), (13, false), (14, true)]), (8, [0, 1, 0, 4, 15, 0, 32, 0, 128, 480, 0, 1024, 0, 4096, 15360, 31, 32799, 99327, 230399, 524287, 1048575], [(0, false), (1, true), (2, false), (3, true), (4, false), (5, false), (6, true), (7, false), (8, true), (9, false), (10, false), (11, true), (12, false), (13, true), (14, false), (15, false), (16, true), (17, false), (18, true), (19, false), (20, true)]), (12, [0, 1, 0, 0, 8, 0, 32, 0, 224, 480, 992, 2040, 4095, 8191, 16383], [(0, false), (1, false), (2, false), (3, false), (4, true), (5, false), (6, true), (7, false), (8, false), (9, false), (10, true), (11, false), (12, false), (13, false), (14, true)]), (21, [0, 1, 0, 4, 15, 0, 32, 0, 128, 480, 31, 2047], [(0, false), (1, true), (2, false), (3, true), (4, false), (5, false), (6, true), (7, false), (8, true), (9, false), (10, false), (11, false)])]⟩) tab mixed (fun s' => ∃ f2, FlGood f2 6 ∧ Known f2.loads ∧ s'.tmp 4 = .lptr (qq, 4) 0 ∧ s'.mks = [] ∧ ((f2.loads.map Ld.row = [] ∧ s'.box (qq, 4) = some (fpre f2 ++ [.nils])) ∨ ∃ bb, s'.box (qq, 4) = some (fpre f2 ++ [.slc bb 7 0 (f2.loads.map Ld.row).length]) ∧ s'.h.at_ bb = some ⟨7, f2.loads.map Ld.row⟩)) (by decide) ?_ ?_
    · have hfl0 : f.loads.length ≤ 1000 := by have := hf.many; omega
      have kn0 : Kn f 0 f.loads := ⟨rfl, hf.loads, fun j hj => absurd hj (Nat.not_lt_zero _)⟩
      rcases gx with ⟨e0, gx⟩ | ⟨bb, hbb, hbk, gx, gz⟩
      · unfold fpre at gx
        rw [← upd_self g3, ← upd_self g4, ← upd_self gx]
        repeat' (first
            | refine st_seq_reg rfl (by first | (simp only [go_sem]; rfl) | rfl) (by first | (simp only [go_sem]; rfl) | rfl) ?_
            | refine st_reg rfl (by first | (simp only [go_sem]; rfl) | rfl) (by first | (simp only [go_sem]; rfl) | rfl) ?_
            | refine st_seq_draw rfl (by first | (simp only [go_sem]; rfl) | rfl) (by first | (simp only [go_sem]; rfl) | rfl) ?_
            | refine st_draw rfl (by first | (simp only [go_sem]; rfl) | rfl) (by first | (simp only [go_sem]; rfl) | rfl) ?_
            | refine st_op ?_
            | refine st_det rfl (by simp (disch := omega) only [go_sem, wr_i64, if_yes, if_no, ↓reduceIte, Nat.reduceAdd, Nat.reduceMul, Nat.reduceEqDiff, Nat.reduceBEq, Nat.reduceLeDiff]; rfl) ?_
            | refine st_dop rfl ?_
            | refine st_loc rfl (by simp (disch := omega) only [go_sem, wr_i64, if_yes, if_no, ↓reduceIte, Nat.reduceAdd, Nat.reduceMul, Nat.reduceEqDiff, Nat.reduceBEq, Nat.reduceLeDiff]; rfl) ?_
            | refine st_heap rfl (by simp (disch := omega) only [go_sem, wr_i64, if_yes, if_no, ↓reduceIte, Nat.reduceAdd, Nat.reduceMul, Nat.reduceEqDiff, Nat.reduceBEq, Nat.reduceLeDiff]; rfl) ?_
            | refine st_store (by simp (disch := omega) only [go_sem, wr_i64, if_yes, if_no, ↓reduceIte, Nat.reduceAdd, Nat.reduceMul, Nat.reduceEqDiff, Nat.reduceBEq, Nat.reduceLeDiff]; rfl) ?_
            | refine st_append (by simp (disch := omega) only [go_sem, wr_i64, if_yes, if_no, ↓reduceIte, Nat.reduceAdd, Nat.reduceMul, Nat.reduceEqDiff, Nat.reduceBEq, Nat.reduceLeDiff]; rfl) ?_
            | refine st_gT rfl rfl rfl ?_
            | refine st_gF rfl rfl rfl ?_
            | refine st_dgT rfl rfl rfl rfl ?_
            | refine st_dgF rfl rfl rfl ?_
            | (refine st_gS rfl rfl ?_ ?_ <;> intro hg <;> (try simp only [decide_eq_true_eq, decide_eq_false_iff_not, Bool.not_eq_true', Bool.not_eq_false'] at hg))
            | (refine st_dgS rfl rfl ?_ ?_ <;> intro hg <;> (try simp only [decide_eq_true_eq, decide_eq_false_iff_not, Bool.not_eq_true', Bool.not_eq_false'] at hg))
            | refine st_condT rfl ?_
            | refine st_condF rfl ?_
            | (refine st_condS rfl ?_ ?_ <;> intro hg <;> (try simp only [decide_eq_true_eq, decide_eq_false_iff_not, Bool.not_eq_true', Bool.not_eq_false'] at hg))
            | refine st_nil ?_
            | refine st_dnil ?_
            | refine st_tN ?_
            | refine st_seq ?_
            | refine st_block ?_
            | refine st_skip ?_
            | refine st_exit ?_
            | refine st_ret ?_
            | refine st_tE ?_
            | refine st_tR ?_
            | refine st_bN ?_
            | refine st_bR ?_
            | refine st_bH ?_
            | refine st_bM rfl ?_)
        refine st_loopC (α := Nat) tab mixed [] [] (by repeat (first | exact trivial | refine ⟨rfl, ?_⟩)) [4] [_] (by repeat (first | exact trivial | refine ⟨rfl, ?_⟩)) (fun i => [(5, .int .i64 (i : Nat))]) [(3, _), (4, _)] (fun _ => []) [_] (fun i => i = 0) (fun _ => 0) (by decide) 0 rfl (by (try simp only [go_sem]); repeat' (first | exact trivial | refine And.intro ?_ ?_ | rfl | (simp (disch := omega) only [go_sem, if_yes, if_no, ↓reduceIte, Nat.reduceAdd, Nat.reduceMul, Nat.reduceEqDiff, Nat.reduceBEq, Nat.reduceLeDiff]; rfl) | (simp (disch := omega) only [go_sem, if_yes, if_no, ↓reduceIte, Nat.reduceAdd, Nat.reduceMul, Nat.reduceEqDiff, Nat.reduceBEq, Nat.reduceLeDiff]))) (by (try simp only [go_sem]); repeat' (first | exact trivial | refine And.intro ?_ ?_ | rfl | (simp (disch := omega) only [go_sem, if_yes, if_no, ↓reduceIte, Nat.reduceAdd, Nat.reduceMul, Nat.reduceEqDiff, Nat.reduceBEq, Nat.reduceLeDiff]; rfl) | (simp (disch := omega) only [go_sem, if_yes, if_no, ↓reduceIte, Nat.reduceAdd, Nat.reduceMul, Nat.reduceEqDiff, Nat.reduceBEq, Nat.reduceLeDiff]))) (by first | (simp only [go_sem]; rfl) | rfl) (by intro n; simp only [go_sem]; rfl) ?_
        rintro i c rfl hc
        simp only [go_sem]
        repeat' (first
            | refine st_seq_reg rfl (by first | (simp only [go_sem]; rfl) | rfl) (by first | (simp only [go_sem]; rfl) | rfl) ?_
            | refine st_reg rfl (by first | (simp only [go_sem]; rfl) | rfl) (by first | (simp only [go_sem]; rfl) | rfl) ?_
            | refine st_seq_draw rfl (by first | (simp only [go_sem]; rfl) | rfl) (by first | (simp only [go_sem]; rfl) | rfl) ?_
            | refine st_draw rfl (by first | (simp only [go_sem]; rfl) | rfl) (by first | (simp only [go_sem]; rfl) | rfl) ?_
            | refine st_op ?_
            | refine st_det rfl (by simp (disch := omega) only [go_sem, wr_i64, if_yes, if_no, ↓reduceIte, Nat.reduceAdd, Nat.reduceMul, Nat.reduceEqDiff, Nat.reduceBEq, Nat.reduceLeDiff]; rfl) ?_
            | refine st_dop rfl ?_
            | refine st_loc rfl (by simp (disch := omega) only [go_sem, wr_i64, if_yes, if_no, ↓reduceIte, Nat.reduceAdd, Nat.reduceMul, Nat.reduceEqDiff, Nat.reduceBEq, Nat.reduceLeDiff]; rfl) ?_
            | refine st_heap rfl (by simp (disch := omega) only [go_sem, wr_i64, if_yes, if_no, ↓reduceIte, Nat.reduceAdd, Nat.reduceMul, Nat.reduceEqDiff, Nat.reduceBEq, Nat.reduceLeDiff]; rfl) ?_
            | refine st_store (by simp (disch := omega) only [go_sem, wr_i64, if_yes, if_no, ↓reduceIte, Nat.reduceAdd, Nat.reduceMul, Nat.reduceEqDiff, Nat.reduceBEq, Nat.reduceLeDiff]; rfl) ?_
            | refine st_append (by simp (disch := omega) only [go_sem, wr_i64, if_yes, if_no, ↓reduceIte, Nat.reduceAdd, Nat.reduceMul, Nat.reduceEqDiff, Nat.reduceBEq, Nat.reduceLeDiff]; rfl) ?_
            | refine st_gT rfl rfl rfl ?_
            | refine st_gF rfl rfl rfl ?_
            | refine st_dgT rfl rfl rfl rfl ?_
            | refine st_dgF rfl rfl rfl ?_
            | (refine st_gS rfl rfl ?_ ?_ <;> intro hg <;> (try simp only [decide_eq_true_eq, decide_eq_false_iff_not, Bool.not_eq_true', Bool.not_eq_false'] at hg))
            | (refine st_dgS rfl rfl ?_ ?_ <;> intro hg <;> (try simp only [decide_eq_true_eq, decide_eq_false_iff_not, Bool.not_eq_true', Bool.not_eq_false'] at hg))
            | refine st_condT rfl ?_
            | refine st_condF rfl ?_
            | (refine st_condS rfl ?_ ?_ <;> intro hg <;> (try simp only [decide_eq_true_eq, decide_eq_false_iff_not, Bool.not_eq_true', Bool.not_eq_false'] at hg))
            | refine st_nil ?_
            | refine st_dnil ?_
            | refine st_tN ?_
            | refine st_seq ?_
            | refine st_block ?_
            | refine st_skip ?_
            | refine st_exit ?_
            | refine st_ret ?_
            | refine st_tE ?_
            | refine st_tR ?_
            | refine st_bN ?_
            | refine st_bR ?_
            | refine st_bH ?_
            | refine st_bM rfl ?_)
        refine ⟨f, hf, (fun y hy => by rw [e0] at hy; cases hy), rfl, rfl, .inl ⟨by rw [e0]; rfl, ?_⟩⟩
        (simp only [go_sem, ↓reduceIte] <;> rfl)
      · unfold fpre at gx
        have hbb' : ¬ b = bb := fun e => hbb e.symm
        rw [← upd_self g3, ← upd_self g4, ← upd_self gx]
        repeat' (first
            | refine st_seq_reg rfl (by first | (simp only [go_sem]; rfl) | rfl) (by first | (simp only [go_sem]; rfl) | rfl) ?_
            | refine st_reg rfl (by first | (simp only [go_sem]; rfl) | rfl) (by first | (simp only [go_sem]; rfl) | rfl) ?_
            | refine st_seq_draw rfl (by first | (simp only [go_sem]; rfl) | rfl) (by first | (simp only [go_sem]; rfl) | rfl) ?_
            | refine st_draw rfl (by first | (simp only [go_sem]; rfl) | rfl) (by first | (simp only [go_sem]; rfl) | rfl) ?_
            | refine st_op ?_
            | refine st_det rfl (by simp (disch := omega) only [go_sem, wr_i64, if_yes, if_no, ↓reduceIte, Nat.reduceAdd, Nat.reduceMul, Nat.reduceEqDiff, Nat.reduceBEq, Nat.reduceLeDiff]; rfl) ?_
            | refine st_dop rfl ?_
            | refine st_loc rfl (by simp (disch := omega) only [go_sem, wr_i64, if_yes, if_no, ↓reduceIte, Nat.reduceAdd, Nat.reduceMul, Nat.reduceEqDiff, Nat.reduceBEq, Nat.reduceLeDiff]; rfl) ?_
            | refine st_heap rfl (by simp (disch := omega) only [go_sem, wr_i64, if_yes, if_no, ↓reduceIte, Nat.reduceAdd, Nat.reduceMul, Nat.reduceEqDiff, Nat.reduceBEq, Nat.reduceLeDiff]; rfl) ?_
            | refine st_store (by simp (disch := omega) only [go_sem, wr_i64, if_yes, if_no, ↓reduceIte, Nat.reduceAdd, Nat.reduceMul, Nat.reduceEqDiff, Nat.reduceBEq, Nat.reduceLeDiff]; rfl) ?_
            | refine st_append (by simp (disch := omega) only [go_sem, wr_i64, if_yes, if_no, ↓reduceIte, Nat.reduceAdd, Nat.reduceMul, Nat.reduceEqDiff, Nat.reduceBEq, Nat.reduceLeDiff]; rfl) ?_
            | refine st_gT rfl rfl rfl ?_
            | refine st_gF rfl rfl rfl ?_
            | refine st_dgT rfl rfl rfl rfl ?_
            | refine st_dgF rfl rfl rfl ?_
            | (refine st_gS rfl rfl ?_ ?_ <;> intro hg <;> (try simp only [decide_eq_true_eq, decide_eq_false_iff_not, Bool.not_eq_true', Bool.not_eq_false'] at hg))
            | (refine st_dgS rfl rfl ?_ ?_ <;> intro hg <;> (try simp only [decide_eq_true_eq, decide_eq_false_iff_not, Bool.not_eq_true', Bool.not_eq_false'] at hg))
            | refine st_condT rfl ?_
            | refine st_condF rfl ?_
            | (refine st_condS rfl ?_ ?_ <;> intro hg <;> (try simp only [decide_eq_true_eq, decide_eq_false_iff_not, Bool.not_eq_true', Bool.not_eq_false'] at hg))
            | refine st_nil ?_
            | refine st_dnil ?_
            | refine st_tN ?_
            | refine st_seq ?_
            | refine st_block ?_
            | refine st_skip ?_
            | refine st_exit ?_
            | refine st_ret ?_
            | refine st_tE ?_
            | refine st_tR ?_
            | refine st_bN ?_
            | refine st_bR ?_
            | refine st_bH ?_
            | refine st_bM rfl ?_)
        refine st_loopH (α := KS) tab mixed [] [] (by repeat (first | exact trivial | refine ⟨rfl, ?_⟩)) [4] [_] (by repeat (first | exact trivial | refine ⟨rfl, ?_⟩)) (fun a => [(5, .int .i64 (a.i : Nat))]) [(3, _), (4, _)] (fun _ => []) [_] (KS.hp H b bb) (fun a => a.i ≤ f.loads.length ∧ Kn f a.i a.ys ∧ isU64 a.x) (fun a => f.loads.length - a.i) (by decide) ⟨0, x1, f.loads⟩ ⟨Nat.zero_le _, kn0, hx1⟩ (by (try simp only [go_sem]); repeat' (first | exact trivial | refine And.intro ?_ ?_ | rfl | (simp (disch := omega) only [go_sem, if_yes, if_no, ↓reduceIte, Nat.reduceAdd, Nat.reduceMul, Nat.reduceEqDiff, Nat.reduceBEq, Nat.reduceLeDiff]; rfl) | (simp (disch := omega) only [go_sem, if_yes, if_no, ↓reduceIte, Nat.reduceAdd, Nat.reduceMul, Nat.reduceEqDiff, Nat.reduceBEq, Nat.reduceLeDiff]))) (by (try simp only [go_sem]); repeat' (first | exact trivial | refine And.intro ?_ ?_ | rfl | (simp (disch := omega) only [go_sem, if_yes, if_no, ↓reduceIte, Nat.reduceAdd, Nat.reduceMul, Nat.reduceEqDiff, Nat.reduceBEq, Nat.reduceLeDiff]; rfl) | (simp (disch := omega) only [go_sem, if_yes, if_no, ↓reduceIte, Nat.reduceAdd, Nat.reduceMul, Nat.reduceEqDiff, Nat.reduceBEq, Nat.reduceLeDiff]))) (hold_k0 gb gz (by omega)) ?_
        rintro ⟨i, x2, ys⟩ c ⟨i1, i2, i3⟩ hc
        dsimp only at i1 i2 i3
        have i5 := i2.len
        have e2 : KS.hp H b bb ⟨i, x2, ys⟩ = (H.put b (dr x2)).put bb (some ⟨7, ys.map Ld.row⟩) := rfl
        rw [e2] at hc
        simp only [go_sem] at hc
        simp only [e2, go_sem]
        have hlo : i < f.loads.length → 0 ≤ (ld ys i).lo ∧ (ld ys i).lo ≤ (ld ys i).hi ∧ (ld ys i).hi ≤ 900 := fun h => (i2.good _ (ld_mem (by omega))).kilos
        repeat' (first
            | refine st_seq_reg rfl (by first | (simp only [go_sem, hbb, hbb', List.length_map, List.length_set, i5, Nat.zero_add, ld_setR, ld_setS, set_setL]; rfl) | rfl) (by first | (simp only [go_sem, hbb, hbb', List.length_map, List.length_set, i5, Nat.zero_add, ld_setR, ld_setS, set_setL]; rfl) | rfl) ?_
            | refine st_reg rfl (by first | (simp only [go_sem, hbb, hbb', List.length_map, List.length_set, i5, Nat.zero_add, ld_setR, ld_setS, set_setL]; rfl) | rfl) (by first | (simp only [go_sem, hbb, hbb', List.length_map, List.length_set, i5, Nat.zero_add, ld_setR, ld_setS, set_setL]; rfl) | rfl) ?_
            | refine st_seq_draw rfl (by first | (simp only [go_sem, hbb, hbb', List.length_map, List.length_set, i5, Nat.zero_add, ld_setR, ld_setS, set_setL]; rfl) | rfl) (by first | (simp only [go_sem, hbb, hbb', List.length_map, List.length_set, i5, Nat.zero_add, ld_setR, ld_setS, set_setL]; rfl) | rfl) ?_
            | refine st_draw rfl (by first | (simp only [go_sem, hbb, hbb', List.length_map, List.length_set, i5, Nat.zero_add, ld_setR, ld_setS, set_setL]; rfl) | rfl) (by first | (simp only [go_sem, hbb, hbb', List.length_map, List.length_set, i5, Nat.zero_add, ld_setR, ld_setS, set_setL]; rfl) | rfl) ?_
            | refine st_op ?_
            | refine st_det rfl (by simp (disch := omega) only [go_sem, wr_i64, if_yes, if_no, ↓reduceIte, Nat.reduceAdd, Nat.reduceMul, Nat.reduceEqDiff, Nat.reduceBEq, Nat.reduceLeDiff, hbb, hbb', List.length_map, List.length_set, i5, Nat.zero_add, ld_setR, ld_setS, set_setL]; rfl) ?_
            | refine st_dop rfl ?_
            | refine st_loc rfl (by simp (disch := omega) only [go_sem, wr_i64, if_yes, if_no, ↓reduceIte, Nat.reduceAdd, Nat.reduceMul, Nat.reduceEqDiff, Nat.reduceBEq, Nat.reduceLeDiff, hbb, hbb', List.length_map, List.length_set, i5, Nat.zero_add, ld_setR, ld_setS, set_setL]; rfl) ?_
            | refine st_heap rfl (by simp (disch := omega) only [go_sem, wr_i64, if_yes, if_no, ↓reduceIte, Nat.reduceAdd, Nat.reduceMul, Nat.reduceEqDiff, Nat.reduceBEq, Nat.reduceLeDiff, hbb, hbb', List.length_map, List.length_set, i5, Nat.zero_add, ld_setR, ld_setS, set_setL]; rfl) ?_
            | refine st_store (by simp (disch := omega) only [go_sem, wr_i64, if_yes, if_no, ↓reduceIte, Nat.reduceAdd, Nat.reduceMul, Nat.reduceEqDiff, Nat.reduceBEq, Nat.reduceLeDiff, hbb, hbb', List.length_map, List.length_set, i5, Nat.zero_add, ld_setR, ld_setS, set_setL]; rfl) ?_
            | refine st_append (by simp (disch := omega) only [go_sem, wr_i64, if_yes, if_no, ↓reduceIte, Nat.reduceAdd, Nat.reduceMul, Nat.reduceEqDiff, Nat.reduceBEq, Nat.reduceLeDiff, hbb, hbb', List.length_map, List.length_set, i5, Nat.zero_add, ld_setR, ld_setS, set_setL]; rfl) ?_
            | (refine st_drum (by first | (simp (disch := omega) only [go_sem, hbb, hbb', List.length_map, List.length_set, i5, Nat.zero_add, ld_setR, ld_setS, set_setL]; rfl) | rfl) rfl (c42 b (ld ys i).lo (ld ys i).hi (by have := hlo (by omega); omega) (by have := hlo (by omega); omega)) (by first | (simp (disch := omega) only [go_sem, hbb, hbb', List.length_map, List.length_set, i5, Nat.zero_add, ld_setR, ld_setS, set_setL]; rfl) | rfl) (by assumption) (by first | (simp only [go_sem, hbb, hbb', List.length_map, List.length_set, i5, Nat.zero_add, ld_setR, ld_setS, set_setL]; rfl) | rfl) (by intro x' n; simp (disch := omega) only [go_sem]; rfl) ?_; rintro v x' n hu' ⟨r, rfl, hr⟩ hn)
            | (refine st_pureE (by first | (simp (disch := omega) only [go_sem, hbb, hbb', List.length_map, List.length_set, i5, Nat.zero_add, ld_setR, ld_setS, set_setL]; rfl) | rfl) rfl (c41 r) (by first | (simp only [go_sem, hbb, hbb', List.length_map, List.length_set, i5, Nat.zero_add, ld_setR, ld_setS, set_setL]; rfl) | rfl) (by intro n; simp (disch := omega) only [go_sem]; rfl) ?_; intro n hn)
            | refine st_gT rfl rfl rfl ?_
            | refine st_gF rfl rfl rfl ?_
            | refine st_dgT rfl rfl rfl rfl ?_
            | refine st_dgF rfl rfl rfl ?_
            | (refine st_gS rfl rfl ?_ ?_ <;> intro hg <;> (try simp only [decide_eq_true_eq, decide_eq_false_iff_not, Bool.not_eq_true', Bool.not_eq_false'] at hg))
            | (refine st_dgS rfl rfl ?_ ?_ <;> intro hg <;> (try simp only [decide_eq_true_eq, decide_eq_false_iff_not, Bool.not_eq_true', Bool.not_eq_false'] at hg))
            | refine st_condT rfl ?_
            | refine st_condF rfl ?_
            | (refine st_condS rfl ?_ ?_ <;> intro hg <;> (try simp only [decide_eq_true_eq, decide_eq_false_iff_not, Bool.not_eq_true', Bool.not_eq_false'] at hg))
            | refine st_nil ?_
            | refine st_dnil ?_
            | refine st_tN ?_
            | refine st_seq ?_
            | refine st_block ?_
            | refine st_skip ?_
            | refine st_exit ?_
            | refine st_ret ?_
            | refine st_tE ?_
            | refine st_tR ?_
            | refine st_bN ?_
            | refine st_bR ?_
            | refine st_bH ?_
            | refine st_bM rfl ?_)
        · refine ⟨⟨i + 1, x', ys.set i ⟨(ld ys i).at_, r, r, (ld ys i).tlo, (ld ys i).thi, (ld ys i).kind, (ld ys i).watts⟩⟩, ⟨by show i + 1 ≤ _; omega, i2.step (by omega) (by have := hlo (by omega); omega), hu'⟩, by show f.loads.length - (i + 1) < f.loads.length - i; omega, (by repeat' (first | exact trivial | refine And.intro ?_ ?_ | rfl | (simp (disch := omega) only [go_sem, if_yes, if_no, ↓reduceIte, Nat.reduceAdd, Nat.reduceMul, Nat.reduceEqDiff, Nat.reduceBEq, Nat.reduceLeDiff]; rfl) | (simp (disch := omega) only [go_sem, if_yes, if_no, ↓reduceIte, Nat.reduceAdd, Nat.reduceMul, Nat.reduceEqDiff, Nat.reduceBEq, Nat.reduceLeDiff]))), (by repeat' (first | exact trivial | refine And.intro ?_ ?_ | rfl | (simp (disch := omega) only [go_sem, if_yes, if_no, ↓reduceIte, Nat.reduceAdd, Nat.reduceMul, Nat.reduceEqDiff, Nat.reduceBEq, Nat.reduceLeDiff]; rfl) | (simp (disch := omega) only [go_sem, if_yes, if_no, ↓reduceIte, Nat.reduceAdd, Nat.reduceMul, Nat.reduceEqDiff, Nat.reduceBEq, Nat.reduceLeDiff]))), rfl, hold6' (by omega)⟩
        · obtain rfl : i = f.loads.length := by omega
          obtain ⟨k1, k2⟩ := i2.fin hf
          refine ⟨setL f ys, k1, k2, rfl, rfl, .inr ⟨bb, ?_, ?_⟩⟩
          · show _ = some (fpre f ++ [.slc bb 7 0 ys.length])
            rw [i5]
            (simp only [go_sem, ↓reduceIte] <;> rfl)
          · (simp only [go_sem, ↓reduceIte] <;> rfl)
    · clear gx gb gk g3 g4 hx1 hf
      rintro ⟨T2, B2, M2, H2⟩ ⟨f2, hf2, hk2, g4, gm, gz⟩
      dsimp only at g4 gm gz
      subst gm
      refine ASem.cutB 7 (fpre_frz f2) gz fun H3 => ?_
      rw [← upd_self g4]
      have hfl : f2.loads.length ≤ 1000 := by have := hf2.many; omega
      unfold fpre
      simp only [List.cons_append, List.nil_append]
      have q1 := hf2.len; have q2 := hf2.axles; have q3 := hf2.mid
      refine asem_seq (fi := ⟨208, [4, 8, 10, 12, 13, 15, 16, 18, 20], [], none, [(6, [0, 1, 0, 0, 0, 16, 0, 112, 240, 496, 1016, 2040, 4095, 8191, 16383], [(0, false), (1, true), (2, false), (3, false), (4, false), (5, true), (6, false), (7, false), (8, false), (9, false), (10, false), (11, false), (12, false), (13, false), (14, true)]), (8, [0, 1, 0, 4, 15, 0, 32, 0, 128, 480, 0, 1024, 0, 4096, 15360, 31, 32799, 99327, 230399, 524287, 1048575], [(0, false), (1, true), (2, false), (3, true), (4, false), (5, false), (6, true), (7, false), (8, true), (9, false), (10, false), (11, true), (12, false), (13, true), (14, false), (15, false), (16, true), (17, false), (18, true), (19, false), (20, true)]), (12, [0, 1, 0, 0, 8, 0, 32, 0, 224, 480, 992, 2040, 4095, 8191, 16383], [(0, false), (1, false), (2, false), (3, false), (4, true), (5, false), (6, true), (7, false), (8, false), (9, false), (10, true), (11, false), (12, false), (13, false), (14, true)]), (21, [0, 1, 0, 4, 15, 0, 32, 0, 128, 480, 31, 2047], [(0, false), (1, true), (2, false), (3, true), (4, false), (5, false), (6, true), (7, false), (8, true), (9, false), (10, false), (11, false)])]⟩) tab mixed (by decide) ?_
      repeat' (first
          | refine st_seq_reg rfl (by first | (simp only [go_sem]; rfl) | rfl) (by first | (simp only [go_sem]; rfl) | rfl) ?_
          | refine st_reg rfl (by first | (simp only [go_sem]; rfl) | rfl) (by first | (simp only [go_sem]; rfl) | rfl) ?_
          | refine st_seq_draw rfl (by first | (simp only [go_sem]; rfl) | rfl) (by first | (simp only [go_sem]; rfl) | rfl) ?_
          | refine st_draw rfl (by first | (simp only [go_sem]; rfl) | rfl) (by first | (simp only [go_sem]; rfl) | rfl) ?_
          | refine st_op ?_
          | refine st_det rfl (by simp (disch := omega) only [go_sem, wr_i64, if_yes, if_no, ↓reduceIte, Nat.reduceAdd, Nat.reduceMul, Nat.reduceEqDiff, Nat.reduceBEq, Nat.reduceLeDiff]; rfl) ?_
          | refine st_dop rfl ?_
          | refine st_loc rfl (by simp (disch := omega) only [go_sem, wr_i64, if_yes, if_no, ↓reduceIte, Nat.reduceAdd, Nat.reduceMul, Nat.reduceEqDiff, Nat.reduceBEq, Nat.reduceLeDiff]; rfl) ?_
          | refine st_heap rfl (by simp (disch := omega) only [go_sem, wr_i64, if_yes, if_no, ↓reduceIte, Nat.reduceAdd, Nat.reduceMul, Nat.reduceEqDiff, Nat.reduceBEq, Nat.reduceLeDiff]; rfl) ?_
          | refine st_store (by simp (disch := omega) only [go_sem, wr_i64, if_yes, if_no, ↓reduceIte, Nat.reduceAdd, Nat.reduceMul, Nat.reduceEqDiff, Nat.reduceBEq, Nat.reduceLeDiff]; rfl) ?_
          | refine st_append (by simp (disch := omega) only [go_sem, wr_i64, if_yes, if_no, ↓reduceIte, Nat.reduceAdd, Nat.reduceMul, Nat.reduceEqDiff, Nat.reduceBEq, Nat.reduceLeDiff]; rfl) ?_
          | (refine st_callf rfl rfl (c24 f2 hfl _) ?_; rintro v h' ⟨bb, m, rfl, hb3, hb4, rfl⟩)
          | refine st_gT rfl rfl rfl ?_
          | refine st_gF rfl rfl rfl ?_
          | refine st_dgT rfl rfl rfl rfl ?_
          | refine st_dgF rfl rfl rfl ?_
          | (refine st_gS rfl rfl ?_ ?_ <;> intro hg <;> (try simp only [decide_eq_true_eq, decide_eq_false_iff_not, Bool.not_eq_true', Bool.not_eq_false'] at hg))
          | (refine st_dgS rfl rfl ?_ ?_ <;> intro hg <;> (try simp only [decide_eq_true_eq, decide_eq_false_iff_not, Bool.not_eq_true', Bool.not_eq_false'] at hg))
          | refine st_condT rfl ?_
          | refine st_condF rfl ?_
          | (refine st_condS rfl ?_ ?_ <;> intro hg <;> (try simp only [decide_eq_true_eq, decide_eq_false_iff_not, Bool.not_eq_true', Bool.not_eq_false'] at hg))
          | refine st_nil ?_
          | refine st_dnil ?_
          | refine st_tN ?_
          | refine st_seq ?_
          | refine st_block ?_
          | refine st_skip ?_
          | refine st_exit ?_
          | refine st_ret ?_
          | refine st_tE ?_
          | refine st_tR ?_
          | refine st_bN ?_
          | refine st_bR ?_
          | refine st_bH ?_
          | refine st_bM rfl ?_)
      refine asem_seq (fi := ⟨208, [4, 8, 10, 12, 13, 15, 16, 18, 20], [], none, [(6, [0, 1, 0, 0, 0, 16, 0, 112, 240, 496, 1016, 2040, 4095, 8191, 16383], [(0, false), (1, true), (2, false), (3, false), (4, false), (5, true), (6, false), (7, false), (8, false), (9, false), (10, false), (11, false), (12, false), (13, false), (14, true)]), (8, [0, 1, 0, 4, 15, 0, 32, 0, 128, 480, 0, 1024, 0, 4096, 15360, 31, 32799, 99327, 230399, 524287, 1048575], [(0, false), (1, true), (2, false), (3, true), (4, false), (5, false), (6, true), (7, false), (8, true), (9, false), (10, false), (11, true), (12, false), (13, true), (14, false), (15, false), (16, true), (17, false), (18, true), (19, false), (20, true)]), (12, [0, 1, 0, 0, 8, 0, 32, 0, 224, 480, 992, 2040, 4095, 8191, 16383], [(0, false), (1, false), (2, false), (3, false), (4, true), (5, false), (6, true), (7, false), (8, false), (9, false), (10, true), (11, false), (12, false), (13, false), (14, true)]), (21, [0, 1, 0, 4, 15, 0, 32, 0, 128, 480, 31, 2047], [(0, false), (1, true), (2, false), (3, true), (4, false), (5, false), (6, true), (7, false), (8, true), (9, false), (10, false), (11, false)])]⟩) tab mixed (by decide) ?_
      repeat' (first
          | refine st_seq_reg rfl (by first | (simp only [go_sem]; rfl) | rfl) (by first | (simp only [go_sem]; rfl) | rfl) ?_
          | refine st_reg rfl (by first | (simp only [go_sem]; rfl) | rfl) (by first | (simp only [go_sem]; rfl) | rfl) ?_
          | refine st_seq_draw rfl (by first | (simp only [go_sem]; rfl) | rfl) (by first | (simp only [go_sem]; rfl) | rfl) ?_
          | refine st_draw rfl (by first | (simp only [go_sem]; rfl) | rfl) (by first | (simp only [go_sem]; rfl) | rfl) ?_
          | refine st_op ?_
          | refine st_det rfl (by simp (disch := omega) only [go_sem, wr_i64, if_yes, if_no, ↓reduceIte, Nat.reduceAdd, Nat.reduceMul, Nat.reduceEqDiff, Nat.reduceBEq, Nat.reduceLeDiff]; rfl) ?_
          | refine st_dop rfl ?_
          | refine st_loc rfl (by simp (disch := omega) only [go_sem, wr_i64, if_yes, if_no, ↓reduceIte, Nat.reduceAdd, Nat.reduceMul, Nat.reduceEqDiff, Nat.reduceBEq, Nat.reduceLeDiff]; rfl) ?_
          | refine st_heap rfl (by simp (disch := omega) only [go_sem, wr_i64, if_yes, if_no, ↓reduceIte, Nat.reduceAdd, Nat.reduceMul, Nat.reduceEqDiff, Nat.reduceBEq, Nat.reduceLeDiff]; rfl) ?_
          | refine st_store (by simp (disch := omega) only [go_sem, wr_i64, if_yes, if_no, ↓reduceIte, Nat.reduceAdd, Nat.reduceMul, Nat.reduceEqDiff, Nat.reduceBEq, Nat.reduceLeDiff]; rfl) ?_
          | refine st_append (by simp (disch := omega) only [go_sem, wr_i64, if_yes, if_no, ↓reduceIte, Nat.reduceAdd, Nat.reduceMul, Nat.reduceEqDiff, Nat.reduceBEq, Nat.reduceLeDiff]; rfl) ?_
          | refine st_gT rfl rfl rfl ?_
          | refine st_gF rfl rfl rfl ?_
          | refine st_dgT rfl rfl rfl rfl ?_
          | refine st_dgF rfl rfl rfl ?_
          | (refine st_gS rfl rfl ?_ ?_ <;> intro hg <;> (try simp only [decide_eq_true_eq, decide_eq_false_iff_not, Bool.not_eq_true', Bool.not_eq_false'] at hg))
          | (refine st_dgS rfl rfl ?_ ?_ <;> intro hg <;> (try simp only [decide_eq_true_eq, decide_eq_false_iff_not, Bool.not_eq_true', Bool.not_eq_false'] at hg))
          | refine st_condT rfl ?_
          | refine st_condF rfl ?_
          | (refine st_condS rfl ?_ ?_ <;> intro hg <;> (try simp only [decide_eq_true_eq, decide_eq_false_iff_not, Bool.not_eq_true', Bool.not_eq_false'] at hg))
          | refine st_nil ?_
          | refine st_dnil ?_
          | refine st_tN ?_
          | refine st_seq ?_
          | refine st_block ?_
          | refine st_skip ?_
          | refine st_exit ?_
          | refine st_ret ?_
          | refine st_tE ?_
          | refine st_tR ?_
          | refine st_bN ?_
          | refine st_bR ?_
          | refine st_bH ?_
          | refine st_bM rfl ?_)
      have hyb : ¬ (H3.clk, 6) = bb := fun e => by rw [← e] at hb3; exact absurd hb3 (by show ¬ H3.clk + 1 ≤ H3.clk; omega)
      have hyb' : ¬ bb = (H3.clk, 6) := fun e => hyb e.symm
      generalize hH5 : ((H3.tick (m + 1)).put bb (some ⟨7, f2.loads.map Ld.row⟩)).put (H3.clk, 6) (some ⟨9, [[.int .i64 f2.len, .int .i64 f2.wid, .int .i64 (f2.len - f2.rear), .int .i64 (f2.len - f2.front), .int .i64 f2.turn, .int .i64 f2.kilos, .int .i64 (f2.len - f2.mid), .int .i64 f2.high, .slc bb 7 0 f2.loads.length]]⟩) = H5
      have gy : H5.at_ (H3.clk, 6) = some ⟨9, [[.int .i64 f2.len, .int .i64 f2.wid, .int .i64 (f2.len - f2.rear), .int .i64 (f2.len - f2.front), .int .i64 f2.turn, .int .i64 f2.kilos, .int .i64 (f2.len - f2.mid), .int .i64 f2.high, .slc bb 7 0 f2.loads.length]]⟩ := by rw [← hH5]; simp only [go_sem, ↓reduceIte]
      have gx : H5.at_ bb = some ⟨7, f2.loads.map Ld.row⟩ := by rw [← hH5]; simp only [go_sem, ↓reduceIte, if_neg hyb']
      clear hH5
      generalize (H3.clk, 6) = yb at *
      refine asem_seqK (fi := ⟨208, [4, 8, 10, 12, 13, 15, 16, 18, 20], [], none, [(6, [0, 1, 0, 0, 0, 16, 0, 112, 240, 496, 1016, 2040, 4095, 8191, 16383], [(0, false), (1, true), (2, false), (3, false), (4, false), (5, true), (6, false), (7, false), (8, false), (9, false), (10, false), (11, false), (12, false), (13, false), (14, true)]), (8, [0, 1, 0, 4, 15, 0, 32, 0, 128, 480, 0, 1024, 0, 4096, 15360, 31, 32799, 99327, 230399, 524287, 1048575], [(0, false), (1, true), (2, false), (3, true), (4, false), (5, false), (6, true), (7, false), (8, true), (9, false), (10, false), (11, true), (12, false), (13, true), (14, false), (15, false), (16, true), (17, false), (18, true), (19, false), (20, true)]), (12, [0, 1, 0, 0, 8, 0, 32, 0, 224, 480, 992, 2040, 4095, 8191, 16383], [(0, false), (1, false), (2, false), (3, false), (4, true), (5, false), (6, true), (7, false), (8, false), (9, false), (10, true), (11, false), (12, false), (13, false), (14, true)]), (21, [0, 1, 0, 4, 15, 0, 32, 0, 128, 480, 31, 2047], [(0, false), (1, true), (2, false), (3, true), (4, false), (5, false), (6, true), (7, false), (8, true), (9, false), (10, false), (11, false)])]⟩) tab mixed (fun s' => s'.tmp 4 = .lptr (qq, 4) 0 ∧ s'.box (qq, 4) = some (fpre f2 ++ [.lst 7 (f2.loads.map Ld.row)]) ∧ s'.tmp 6 = .ptr yb 0 0 ∧ s'.mks = [] ∧ s'.h.at_ yb = some ⟨9, [fpre (turnF f2) ++ [.slc bb 7 0 f2.loads.length]]⟩ ∧ s'.h.at_ bb = some ⟨7, (turnL f2.len f2.loads).map Ld.row⟩) (by decide) ?_ ?_
      · repeat' (first
            | refine st_seq_reg rfl (by first | (simp only [go_sem]; rfl) | rfl) (by first | (simp only [go_sem]; rfl) | rfl) ?_
            | refine st_reg rfl (by first | (simp only [go_sem]; rfl) | rfl) (by first | (simp only [go_sem]; rfl) | rfl) ?_
            | refine st_seq_draw rfl (by first | (simp only [go_sem]; rfl) | rfl) (by first | (simp only [go_sem]; rfl) | rfl) ?_
            | refine st_draw rfl (by first | (simp only [go_sem]; rfl) | rfl) (by first | (simp only [go_sem]; rfl) | rfl) ?_
            | refine st_op ?_
            | refine st_det rfl (by simp (disch := omega) only [go_sem, wr_i64, if_yes, if_no, ↓reduceIte, Nat.reduceAdd, Nat.reduceMul, Nat.reduceEqDiff, Nat.reduceBEq, Nat.reduceLeDiff]; rfl) ?_
            | refine st_dop rfl ?_
            | refine st_loc rfl (by simp (disch := omega) only [go_sem, wr_i64, if_yes, if_no, ↓reduceIte, Nat.reduceAdd, Nat.reduceMul, Nat.reduceEqDiff, Nat.reduceBEq, Nat.reduceLeDiff]; rfl) ?_
            | refine st_heap rfl (by simp (disch := omega) only [go_sem, wr_i64, if_yes, if_no, ↓reduceIte, Nat.reduceAdd, Nat.reduceMul, Nat.reduceEqDiff, Nat.reduceBEq, Nat.reduceLeDiff]; rfl) ?_
            | refine st_store (by simp (disch := omega) only [go_sem, wr_i64, if_yes, if_no, ↓reduceIte, Nat.reduceAdd, Nat.reduceMul, Nat.reduceEqDiff, Nat.reduceBEq, Nat.reduceLeDiff]; rfl) ?_
            | refine st_append (by simp (disch := omega) only [go_sem, wr_i64, if_yes, if_no, ↓reduceIte, Nat.reduceAdd, Nat.reduceMul, Nat.reduceEqDiff, Nat.reduceBEq, Nat.reduceLeDiff]; rfl) ?_
            | refine st_gT rfl rfl rfl ?_
            | refine st_gF rfl rfl rfl ?_
            | refine st_dgT rfl rfl rfl rfl ?_
            | refine st_dgF rfl rfl rfl ?_
            | (refine st_gS rfl rfl ?_ ?_ <;> intro hg <;> (try simp only [decide_eq_true_eq, decide_eq_false_iff_not, Bool.not_eq_true', Bool.not_eq_false'] at hg))
            | (refine st_dgS rfl rfl ?_ ?_ <;> intro hg <;> (try simp only [decide_eq_true_eq, decide_eq_false_iff_not, Bool.not_eq_true', Bool.not_eq_false'] at hg))
            | refine st_condT rfl ?_
            | refine st_condF rfl ?_
            | (refine st_condS rfl ?_ ?_ <;> intro hg <;> (try simp only [decide_eq_true_eq, decide_eq_false_iff_not, Bool.not_eq_true', Bool.not_eq_false'] at hg))
            | refine st_nil ?_
            | refine st_dnil ?_
            | refine st_tN ?_
            | refine st_seq ?_
            | refine st_block ?_
            | refine st_skip ?_
            | refine st_exit ?_
            | refine st_ret ?_
            | refine st_tE ?_
            | refine st_tR ?_
            | refine st_bN ?_
            | refine st_bR ?_
            | refine st_bH ?_
            | refine st_bM rfl ?_)
        refine st_loopH (α := Nat) tab mixed [] [] (by repeat (first | exact trivial | refine ⟨rfl, ?_⟩)) [4] [_] (by repeat (first | exact trivial | refine ⟨rfl, ?_⟩)) (fun i => [(7, .int .i64 (i : Nat))]) [(4, _), (6, _)] (fun _ => []) [_] (fun i => H5.put bb (some ⟨7, (turnUp f2.len f2.loads i).map Ld.row⟩)) (fun i => i ≤ f2.loads.length) (fun i => f2.loads.length - i) (by decide) 0 (Nat.zero_le _) (by (try simp only [go_sem]); repeat' (first | exact trivial | refine And.intro ?_ ?_ | rfl | (simp (disch := omega) only [go_sem, if_yes, if_no, ↓reduceIte, Nat.reduceAdd, Nat.reduceMul, Nat.reduceEqDiff, Nat.reduceBEq, Nat.reduceLeDiff]; rfl) | (simp (disch := omega) only [go_sem, if_yes, if_no, ↓reduceIte, Nat.reduceAdd, Nat.reduceMul, Nat.reduceEqDiff, Nat.reduceBEq, Nat.reduceLeDiff]))) (by (try simp only [go_sem]); repeat' (first | exact trivial | refine And.intro ?_ ?_ | rfl | (simp (disch := omega) only [go_sem, if_yes, if_no, ↓reduceIte, Nat.reduceAdd, Nat.reduceMul, Nat.reduceEqDiff, Nat.reduceBEq, Nat.reduceLeDiff]; rfl) | (simp (disch := omega) only [go_sem, if_yes, if_no, ↓reduceIte, Nat.reduceAdd, Nat.reduceMul, Nat.reduceEqDiff, Nat.reduceBEq, Nat.reduceLeDiff]))) (hold_k1 gx (by omega)) ?_
        intro i c i1 hc
        simp only [go_sem] at hc
        simp only [go_sem]
        have tu := turnUp_ld (len := f2.len) i1
        have tn := turnUp_len f2.len f2.loads i
        have hat : i < f2.loads.length → f2.front ≤ (ld f2.loads i).at_ ∧ (ld f2.loads i).at_ ≤ f2.rear := fun h => (hf2.loads _ (ld_mem h)).at_
        repeat' (first
            | refine st_seq_reg rfl (by first | (simp only [go_sem, hyb, hyb', gy, gx, List.length_map, List.length_set, tn, tu, Nat.zero_add, ld_setR, ld_setS, set_setL]; rfl) | rfl) (by first | (simp only [go_sem, hyb, hyb', gy, gx, List.length_map, List.length_set, tn, tu, Nat.zero_add, ld_setR, ld_setS, set_setL]; rfl) | rfl) ?_
            | refine st_reg rfl (by first | (simp only [go_sem, hyb, hyb', gy, gx, List.length_map, List.length_set, tn, tu, Nat.zero_add, ld_setR, ld_setS, set_setL]; rfl) | rfl) (by first | (simp only [go_sem, hyb, hyb', gy, gx, List.length_map, List.length_set, tn, tu, Nat.zero_add, ld_setR, ld_setS, set_setL]; rfl) | rfl) ?_
            | refine st_seq_draw rfl (by first | (simp only [go_sem, hyb, hyb', gy, gx, List.length_map, List.length_set, tn, tu, Nat.zero_add, ld_setR, ld_setS, set_setL]; rfl) | rfl) (by first | (simp only [go_sem, hyb, hyb', gy, gx, List.length_map, List.length_set, tn, tu, Nat.zero_add, ld_setR, ld_setS, set_setL]; rfl) | rfl) ?_
            | refine st_draw rfl (by first | (simp only [go_sem, hyb, hyb', gy, gx, List.length_map, List.length_set, tn, tu, Nat.zero_add, ld_setR, ld_setS, set_setL]; rfl) | rfl) (by first | (simp only [go_sem, hyb, hyb', gy, gx, List.length_map, List.length_set, tn, tu, Nat.zero_add, ld_setR, ld_setS, set_setL]; rfl) | rfl) ?_
            | refine st_op ?_
            | refine st_det rfl (by simp (disch := omega) only [go_sem, wr_i64, if_yes, if_no, ↓reduceIte, Nat.reduceAdd, Nat.reduceMul, Nat.reduceEqDiff, Nat.reduceBEq, Nat.reduceLeDiff, hyb, hyb', gy, gx, List.length_map, List.length_set, tn, tu, Nat.zero_add, ld_setR, ld_setS, set_setL]; rfl) ?_
            | refine st_dop rfl ?_
            | refine st_loc rfl (by simp (disch := omega) only [go_sem, wr_i64, if_yes, if_no, ↓reduceIte, Nat.reduceAdd, Nat.reduceMul, Nat.reduceEqDiff, Nat.reduceBEq, Nat.reduceLeDiff, hyb, hyb', gy, gx, List.length_map, List.length_set, tn, tu, Nat.zero_add, ld_setR, ld_setS, set_setL]; rfl) ?_
            | refine st_heap rfl (by simp (disch := omega) only [go_sem, wr_i64, if_yes, if_no, ↓reduceIte, Nat.reduceAdd, Nat.reduceMul, Nat.reduceEqDiff, Nat.reduceBEq, Nat.reduceLeDiff, hyb, hyb', gy, gx, List.length_map, List.length_set, tn, tu, Nat.zero_add, ld_setR, ld_setS, set_setL]; rfl) ?_
            | refine st_store (by simp (disch := omega) only [go_sem, wr_i64, if_yes, if_no, ↓reduceIte, Nat.reduceAdd, Nat.reduceMul, Nat.reduceEqDiff, Nat.reduceBEq, Nat.reduceLeDiff, hyb, hyb', gy, gx, List.length_map, List.length_set, tn, tu, Nat.zero_add, ld_setR, ld_setS, set_setL]; rfl) ?_
            | refine st_append (by simp (disch := omega) only [go_sem, wr_i64, if_yes, if_no, ↓reduceIte, Nat.reduceAdd, Nat.reduceMul, Nat.reduceEqDiff, Nat.reduceBEq, Nat.reduceLeDiff, hyb, hyb', gy, gx, List.length_map, List.length_set, tn, tu, Nat.zero_add, ld_setR, ld_setS, set_setL]; rfl) ?_
            | refine st_gT rfl rfl rfl ?_
            | refine st_gF rfl rfl rfl ?_
            | refine st_dgT rfl rfl rfl rfl ?_
            | refine st_dgF rfl rfl rfl ?_
            | (refine st_gS rfl rfl ?_ ?_ <;> intro hg <;> (try simp only [decide_eq_true_eq, decide_eq_false_iff_not, Bool.not_eq_true', Bool.not_eq_false'] at hg))
            | (refine st_dgS rfl rfl ?_ ?_ <;> intro hg <;> (try simp only [decide_eq_true_eq, decide_eq_false_iff_not, Bool.not_eq_true', Bool.not_eq_false'] at hg))
            | refine st_condT rfl ?_
            | refine st_condF rfl ?_
            | (refine st_condS rfl ?_ ?_ <;> intro hg <;> (try simp only [decide_eq_true_eq, decide_eq_false_iff_not, Bool.not_eq_true', Bool.not_eq_false'] at hg))
            | refine st_nil ?_
            | refine st_dnil ?_
            | refine st_tN ?_
            | refine st_seq ?_
            | refine st_block ?_
            | refine st_skip ?_
            | refine st_exit ?_
            | refine st_ret ?_
            | refine st_tE ?_
            | refine st_tR ?_
            | refine st_bN ?_
            | refine st_bR ?_
            | refine st_bH ?_
            | refine st_bM rfl ?_)
        · refine ⟨i + 1, by show i + 1 ≤ f2.loads.length; omega, by show f2.loads.length - (i + 1) < f2.loads.length - i; omega, (by repeat' (first | exact trivial | refine And.intro ?_ ?_ | rfl | (simp (disch := omega) only [go_sem, if_yes, if_no, ↓reduceIte, Nat.reduceAdd, Nat.reduceMul, Nat.reduceEqDiff, Nat.reduceBEq, Nat.reduceLeDiff]; rfl) | (simp (disch := omega) only [go_sem, if_yes, if_no, ↓reduceIte, Nat.reduceAdd, Nat.reduceMul, Nat.reduceEqDiff, Nat.reduceBEq, Nat.reduceLeDiff]))), (by repeat' (first | exact trivial | refine And.intro ?_ ?_ | rfl | (simp (disch := omega) only [go_sem, if_yes, if_no, ↓reduceIte, Nat.reduceAdd, Nat.reduceMul, Nat.reduceEqDiff, Nat.reduceBEq, Nat.reduceLeDiff]; rfl) | (simp (disch := omega) only [go_sem, if_yes, if_no, ↓reduceIte, Nat.reduceAdd, Nat.reduceMul, Nat.reduceEqDiff, Nat.reduceBEq, Nat.reduceLeDiff]))), rfl, by rw [← turnUp_set (by omega)]; exact HOld.put _ _ _ (by omega)⟩
        · obtain rfl : i = f2.loads.length := by omega
          refine ⟨rfl, ?_, rfl, rfl, ?_, ?_⟩
          · (simp only [go_sem, ↓reduceIte] <;> rfl)
          · simp only [go_sem, ↓reduceIte, if_neg hyb]; exact gy
          · have e : turnUp f2.len f2.loads f2.loads.length = turnL f2.len f2.loads := by simp [turnUp]
            simp only [go_sem, ↓reduceIte, e]
      · rintro ⟨T4, B4, M4, H4⟩ ⟨g4, gb, g6, gm, gy, gx⟩
        dsimp only at g4 gb g6 gm gy gx
        subst gm
        refine ASem.frz1 6 g6 gy (by show 0 < 1; decide) ?_
        have gx2 : (H4.put yb none).at_ bb = some ⟨7, (turnL f2.len f2.loads).map Ld.row⟩ := by simp only [go_sem, if_neg hyb']; exact gx
        refine ASem.frz (T' := upd T4 6 (.iptr (flc (turnF f2)) 0)) gx2 (fun t => ?_) ?_
        · by_cases e : t = 6
          · subst e
            right
            rw [upd_same, upd_same]
            have e3 : (turnL f2.len f2.loads).length = f2.loads.length := by simp [turnL]
            have e0 : ((turnL f2.len f2.loads).map Ld.row).take f2.loads.length = (turnL f2.len f2.loads).map Ld.row := List.take_of_length_le (by simp [e3])
            simp [frz, frzs, fpre, flc, e3, e0, turnF]
          · left
            rw [upd_ne _ _ e, upd_ne _ _ e]
        generalize (H4.put yb none).put bb none = H6
        have hg2 := good_turn hf2
        have k1 := chkGood hf2 (by omega)
        have k2 := chkGood hg2 (by omega)
        obtain ⟨bl, ⟨bl1, bl2⟩, bl3, bl4⟩ := balance (f := f2) (by omega) hk2
        have w1 := w_all (arm := oneA) (p := 0) (m := 0) (chkOk k1) (by omega) (by omega) (fun a _ _ => by unfold oneA; omega)
        unfold fpre at gb
        rw [← upd_self g4, ← upd_self gb]
        unfold flc
        refine asem_awp (fi := ⟨208, [4, 8, 10, 12, 13, 15, 16, 18, 20], [], none, [(6, [0, 1, 0, 0, 0, 16, 0, 112, 240, 496, 1016, 2040, 4095, 8191, 16383], [(0, false), (1, true), (2, false), (3, false), (4, false), (5, true), (6, false), (7, false), (8, false), (9, false), (10, false), (11, false), (12, false), (13, false), (14, true)]), (8, [0, 1, 0, 4, 15, 0, 32, 0, 128, 480, 0, 1024, 0, 4096, 15360, 31, 32799, 99327, 230399, 524287, 1048575], [(0, false), (1, true), (2, false), (3, true), (4, false), (5, false), (6, true), (7, false), (8, true), (9, false), (10, false), (11, true), (12, false), (13, true), (14, false), (15, false), (16, true), (17, false), (18, true), (19, false), (20, true)]), (12, [0, 1, 0, 0, 8, 0, 32, 0, 224, 480, 992, 2040, 4095, 8191, 16383], [(0, false), (1, false), (2, false), (3, false), (4, true), (5, false), (6, true), (7, false), (8, false), (9, false), (10, true), (11, false), (12, false), (13, false), (14, true)]), (21, [0, 1, 0, 4, 15, 0, 32, 0, 128, 480, 31, 2047], [(0, false), (1, true), (2, false), (3, true), (4, false), (5, false), (6, true), (7, false), (8, true), (9, false), (10, false), (11, false)])]⟩) tab mixed (by decide) ?_
        repeat' (first
            | refine st_seq_reg rfl (by first | (simp only [go_sem]; rfl) | rfl) (by first | (simp only [go_sem]; rfl) | rfl) ?_
            | refine st_reg rfl (by first | (simp only [go_sem]; rfl) | rfl) (by first | (simp only [go_sem]; rfl) | rfl) ?_
            | refine st_seq_draw rfl (by first | (simp only [go_sem]; rfl) | rfl) (by first | (simp only [go_sem]; rfl) | rfl) ?_
            | refine st_draw rfl (by first | (simp only [go_sem]; rfl) | rfl) (by first | (simp only [go_sem]; rfl) | rfl) ?_
            | refine st_op ?_
            | refine st_det rfl (by simp (disch := omega) only [go_sem, wr_i64, if_yes, if_no, ↓reduceIte, Nat.reduceAdd, Nat.reduceMul, Nat.reduceEqDiff, Nat.reduceBEq, Nat.reduceLeDiff]; rfl) ?_
            | refine st_dop rfl ?_
            | refine st_loc rfl (by simp (disch := omega) only [go_sem, wr_i64, if_yes, if_no, ↓reduceIte, Nat.reduceAdd, Nat.reduceMul, Nat.reduceEqDiff, Nat.reduceBEq, Nat.reduceLeDiff]; rfl) ?_
            | refine st_heap rfl (by simp (disch := omega) only [go_sem, wr_i64, if_yes, if_no, ↓reduceIte, Nat.reduceAdd, Nat.reduceMul, Nat.reduceEqDiff, Nat.reduceBEq, Nat.reduceLeDiff]; rfl) ?_
            | refine st_store (by simp (disch := omega) only [go_sem, wr_i64, if_yes, if_no, ↓reduceIte, Nat.reduceAdd, Nat.reduceMul, Nat.reduceEqDiff, Nat.reduceBEq, Nat.reduceLeDiff]; rfl) ?_
            | refine st_append (by simp (disch := omega) only [go_sem, wr_i64, if_yes, if_no, ↓reduceIte, Nat.reduceAdd, Nat.reduceMul, Nat.reduceEqDiff, Nat.reduceBEq, Nat.reduceLeDiff]; rfl) ?_
            | (refine st_pureE (by first | (simp (disch := omega) only [go_sem]; rfl) | rfl) rfl (c37 f2 k1) (by first | (simp only [go_sem]; rfl) | rfl) (by intro n; simp (disch := omega) only [go_sem]; rfl) ?_; intro n hn)
            | (refine st_pureE (by first | (simp (disch := omega) only [go_sem]; rfl) | rfl) rfl (c37t f2 k2) (by first | (simp only [go_sem]; rfl) | rfl) (by intro n; simp (disch := omega) only [go_sem]; rfl) ?_; intro n hn)
            | (refine st_pureE (by first | (simp (disch := omega) only [go_sem]; rfl) | rfl) rfl (c38g f2 k1) (by first | (simp only [go_sem]; rfl) | rfl) (by intro n; simp (disch := omega) only [go_sem]; rfl) ?_; intro n hn)
            | (refine st_pureE (by first | (simp (disch := omega) only [go_sem]; rfl) | rfl) rfl (c38t f2 k2) (by first | (simp only [go_sem]; rfl) | rfl) (by intro n; simp (disch := omega) only [go_sem]; rfl) ?_; intro n hn)
            | (refine st_pureE (by first | (simp (disch := omega) only [go_sem]; rfl) | rfl) rfl (c43 f2 k1) (by first | (simp only [go_sem]; rfl) | rfl) (by intro n; simp (disch := omega) only [go_sem]; rfl) ?_; intro n hn)
            | (refine st_pureE (by first | (simp (disch := omega) only [go_sem]; rfl) | rfl) rfl (c43t f2 k2) (by first | (simp only [go_sem]; rfl) | rfl) (by intro n; simp (disch := omega) only [go_sem]; rfl) ?_; intro n hn)
            | (refine st_pureE (by first | (simp (disch := omega) only [go_sem]; rfl) | rfl) rfl (c21) (by first | (simp only [go_sem]; rfl) | rfl) (by intro n; simp (disch := omega) only [go_sem]; rfl) ?_; intro n hn)
            | refine st_gT rfl rfl rfl ?_
            | refine st_gF rfl rfl rfl ?_
            | refine st_dgT rfl rfl rfl rfl ?_
            | refine st_dgF rfl rfl rfl ?_
            | (refine st_gS rfl rfl ?_ ?_ <;> intro hg <;> (try simp only [decide_eq_true_eq, decide_eq_false_iff_not, Bool.not_eq_true', Bool.not_eq_false'] at hg))
            | (refine st_dgS rfl rfl ?_ ?_ <;> intro hg <;> (try simp only [decide_eq_true_eq, decide_eq_false_iff_not, Bool.not_eq_true', Bool.not_eq_false'] at hg))
            | refine st_condT rfl ?_
            | refine st_condF rfl ?_
            | (refine st_condS rfl ?_ ?_ <;> intro hg <;> (try simp only [decide_eq_true_eq, decide_eq_false_iff_not, Bool.not_eq_true', Bool.not_eq_false'] at hg))
            | refine st_nil ?_
            | refine st_dnil ?_
            | refine st_tN ?_
            | refine st_seq ?_
            | refine st_block ?_
            | refine st_skip ?_
            | refine st_exit ?_
            | refine st_ret ?_
            | refine st_tE ?_
            | refine st_tR ?_
            | refine st_bN ?_
            | refine st_bR ?_
            | refine st_bH ?_
            | refine st_bM rfl ?_)
        all_goals try (exfalso; omega)
        all_goals
          simp (disch := omega) only [AEnd, Try.results7, aresK, fin, go_sem, ↓reduceIte, Nat.reduceEqDiff, Nat.reduceAdd, Nat.reduceLeDiff, if_yes, if_no, implies_true, true_and, and_true, List.reverse_cons, List.reverse_nil]
end Go.Proofs.Ytkjpceapflhmnaa
