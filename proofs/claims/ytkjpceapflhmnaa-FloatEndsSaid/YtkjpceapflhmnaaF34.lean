/- Contracts of functions that the claim reaches: what each call gives, told in our own logic. Conditions: those of each theorem. -/
import Derived.Test.YtkjpceapflhmnaaF33
set_option linter.all false
set_option linter.unusedSimpArgs false
set_option linter.unusedVariables false
namespace Go.Proofs.Ytkjpceapflhmnaa
open Go.Av
section
variable {P : Program} {tt : Nat → TI} {fi : FI}
/-- A block is given away, in the temporaries and in the boxes. -/
theorem ASem.frzB {r : Option Nat} {n : Nat} {code : Code} {Q : Exit → AS → Prop} {T T' : Nat → AV} {B B' : Bid → Option (List AV)} {M : List Nat} {H : AH} {b : Bid} {k : Blk} (hb : H.at_ b = some k) (hT : ∀ t, T' t = T t ∨ T' t = frz b k (T t))
    (hB : ∀ id cs', B' id = some cs' → ∃ cs, B id = some cs ∧ (cs' = cs ∨ cs' = frzs b k cs))
    (h : ASem P r n code Q ⟨T', B', M, H.put b none⟩) : ASem P r n code Q ⟨T, B, M, H⟩ := by
  intro c0 h0 c lb a S
  obtain ⟨H2, E2⟩ := S.hr.freeze hb
  have S2 := S.go H2 E2 (fun _ h => .inl h)
  refine h c0 h0 (c.freeze b) lb a ⟨S2.hr, ⟨S2.fr.size, fun t => ?_, S2.fr.defers, S2.fr.marks, fun id cs' hcs => ?_, S2.fr.lbclk, S2.fr.lbinj, S2.fr.lbsize⟩, S2.evo, S2.new, S2.dn, S2.mnew⟩
  · rcases hT t with e | e
    · dsimp only; rw [e]; exact S2.fr.tmps t
    · dsimp only; rw [e]; exact VL.frz S.hr hb (S.fr.tmps t)
  · obtain ⟨cs, hcs0, e⟩ := hB id cs' hcs
    obtain ⟨b1, xs, ty, g1, g2, g3, g4, g5, g6⟩ := S2.fr.box id cs hcs0
    rcases e with rfl | rfl
    · exact ⟨b1, xs, ty, g1, g2, g3, g4, g5, g6⟩
    · obtain ⟨b2, xs2, ty2, k1, k2, k3, k4, k5, k6⟩ := S.fr.box id cs hcs0
      have eb : b1 = b2 := Option.some.inj (g1.symm.trans k1)
      subst eb
      have ex : (some (Obj.cells (List.toArray xs) ty (0, 0))) = some (Obj.cells (List.toArray xs2) ty2 (0, 0)) := g2.symm.trans k2
      have ex2 : xs = xs2 := by
        have := Option.some.inj ex
        injection this with h1 h2 h3
        simpa using h1
      subst ex2
      exact ⟨b1, xs, ty, g1, g2, g3, g4, VRs.frz S.hr hb _ _ k5, by rw [frzs_all]; exact k6⟩
end
attribute [local irreducible] thenA blockA awp awpOps awpD awp1
set_option maxHeartbeats 8000000
set_option maxRecDepth 20000
def Fl.own (f : Fl) (bb : Nat × Nat) (n : Nat) : AV := .agg [.int .i64 f.len, .int .i64 f.wid, .int .i64 f.front, .int .i64 f.rear, .int .i64 f.turn, .int .i64 f.kilos, .int .i64 f.mid, .int .i64 f.high, .slc bb 7 0 n]
theorem c24 (f : Fl) (hl : f.loads.length ≤ 1000) (h : AH) : ACalls Try.prog 24 [f.av] h (fun v h' => ∃ bb n, v = f.own bb f.loads.length ∧ h.clk ≤ bb.1 ∧ bb.1 < n ∧ h' = (h.tick n).put bb (some ⟨7, f.loads.map Ld.row⟩)) := by
  refine ACalls.sub (Q := fun v h' => v = f.own (h.clk + 1, 6) f.loads.length ∧ h' = ((h.tick (h.clk + 1 + 1 + 1)).put (h.clk + 1, 3) none).put (h.clk + 1, 6) (some ⟨7, f.loads.map Ld.row⟩)) ?_ ?_
  · refine ACalls.of tab mixed Try.call24 Try.func24 rfl (fi := ⟨9, [1, 2], [], none, []⟩) rfl rfl (Nat.le_of_ble_eq_true rfl) (by decide) ?_
    unfold startA
    simp only [go_sem]
    repeat' (first
        | refine st_seq_reg rfl (by first | (simp only [go_sem, big, List.length_map]; rfl) | rfl) (by first | (simp only [go_sem, big, List.length_map]; rfl) | rfl) ?_
        | refine st_reg rfl (by first | (simp only [go_sem, big, List.length_map]; rfl) | rfl) (by first | (simp only [go_sem, big, List.length_map]; rfl) | rfl) ?_
        | refine st_seq_draw rfl (by first | (simp only [go_sem, big, List.length_map]; rfl) | rfl) (by first | (simp only [go_sem, big, List.length_map]; rfl) | rfl) ?_
        | refine st_draw rfl (by first | (simp only [go_sem, big, List.length_map]; rfl) | rfl) (by first | (simp only [go_sem, big, List.length_map]; rfl) | rfl) ?_
        | refine st_op ?_
        | refine st_det rfl (by simp (disch := omega) only [go_sem, wr_i64, if_yes, if_no, ↓reduceIte, Nat.reduceAdd, Nat.reduceMul, Nat.reduceEqDiff, Nat.reduceBEq, Nat.reduceLeDiff, big, List.length_map]; rfl) ?_
        | refine st_dop rfl ?_
        | refine st_loc rfl (by simp (disch := omega) only [go_sem, wr_i64, if_yes, if_no, ↓reduceIte, Nat.reduceAdd, Nat.reduceMul, Nat.reduceEqDiff, Nat.reduceBEq, Nat.reduceLeDiff, big, List.length_map]; rfl) ?_
        | refine st_heap rfl (by simp (disch := omega) only [go_sem, wr_i64, if_yes, if_no, ↓reduceIte, Nat.reduceAdd, Nat.reduceMul, Nat.reduceEqDiff, Nat.reduceBEq, Nat.reduceLeDiff, big, List.length_map]; rfl) ?_
        | refine st_store (by simp (disch := omega) only [go_sem, wr_i64, if_yes, if_no, ↓reduceIte, Nat.reduceAdd, Nat.reduceMul, Nat.reduceEqDiff, Nat.reduceBEq, Nat.reduceLeDiff, big, List.length_map]; rfl) ?_
        | refine st_append (by simp (disch := omega) only [go_sem, wr_i64, if_yes, if_no, ↓reduceIte, Nat.reduceAdd, Nat.reduceMul, Nat.reduceEqDiff, Nat.reduceBEq, Nat.reduceLeDiff, big, List.length_map]; rfl) ?_
        | refine st_gT rfl rfl rfl ?_
        | refine st_gF rfl rfl rfl ?_
        | refine st_dgT rfl rfl rfl rfl ?_
        | refine st_dgF rfl rfl rfl ?_
        | (refine st_gS rfl rfl ?_ ?_ <;> intro hg <;> (try simp only [decide_eq_true_eq, decide_eq_false_iff_not, Bool.not_eq_true', Bool.not_eq_false'] at hg))
        | (refine st_dgS rfl rfl ?_ ?_ <;> intro hg <;> (try simp only [decide_eq_true_eq, decide_eq_false_iff_not, Bool.not_eq_true', Bool.not_eq_false'] at hg))
        | refine st_condT rfl ?_
        | refine st_condF rfl ?_
        | (refine st_condS rfl ?_ ?_ <;> intro hg <;> (try simp only [decide_eq_true_eq, decide_eq_false_iff_not, Bool.not_eq_true', Bool.not_eq_false'] at hg))
        | refine st_nil ?_
        | refine st_dnil ?_
        | refine st_tN ?_
        | refine st_seq ?_
        | refine st_block ?_
        | refine st_skip ?_
        | refine st_exit ?_
        | refine st_ret ?_
        | refine st_tE ?_
        | refine st_tR ?_
        | refine st_bN ?_
        | refine st_bR ?_
        | refine st_bH ?_
        | refine st_bM rfl ?_)
    simp (disch := omega) only [AEnd, Try.results24, aresK, fin, go_sem, ↓reduceIte, Nat.reduceEqDiff, Nat.reduceAdd, Nat.reduceLeDiff, if_yes, if_no, implies_true, true_and, and_true, List.reverse_cons, List.reverse_nil]
    rw [Nat.zero_add]; rfl
  · rintro v h' hall hclk ⟨rfl, rfl⟩
    refine ⟨(h.tick (h.clk + 1 + 1 + 1)).put (h.clk + 1, 6) (some ⟨7, f.loads.map Ld.row⟩), fun b k hbk => ?_, fun _ _ e => e, Nat.le_refl _, _, _, rfl, by show h.clk ≤ h.clk + 1; omega, by show h.clk + 1 < h.clk + 1 + 1 + 1; omega, rfl⟩
    simp only [AH.put, AH.tick, upd_apply] at hbk ⊢
    split at hbk
    · rename_i e; rw [if_pos e]; exact hbk
    · rename_i e
      rw [if_neg e]
      have := hall b k hbk
      rw [if_neg (fun e' => by rw [e'] at this; exact absurd this (by show ¬ h.clk + 1 < h.clk; omega))]
      exact hbk
end Go.Proofs.Ytkjpceapflhmnaa
