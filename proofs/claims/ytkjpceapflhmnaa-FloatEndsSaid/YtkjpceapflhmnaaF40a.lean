/- Contracts of functions that the claim reaches: what each call gives, told in our own logic. Conditions: those of each theorem. -/
import Derived.Test.YtkjpceapflhmnaaF35
set_option linter.all false
set_option linter.unusedSimpArgs false
set_option linter.unusedVariables false
namespace Go.Proofs.Ytkjpceapflhmnaa
open Go.Av
section
variable {P : Program} {tt : Nat → TI} {fi : FI}
/-- Boxes that say less. -/
theorem ASem.leB {r : Option Nat} {n : Nat} {code : Code} {Q : Exit → AS → Prop} {T : Nat → AV} {B B' : Bid → Option (List AV)} {M : List Nat} {H : AH}
    (hB : ∀ id cs', B' id = some cs' → ∃ cs, B id = some cs ∧ VLes cs cs' ∧ (cs.all AV.cell = true → cs'.all AV.cell = true)) (h : ASem P r n code Q ⟨T, B', M, H⟩) : ASem P r n code Q ⟨T, B, M, H⟩ := by
  intro c0 h0 c lb a S
  refine h c0 h0 c lb a ⟨S.hr, ⟨S.fr.size, S.fr.tmps, S.fr.defers, S.fr.marks, fun id cs' hcs => ?_, S.fr.lbclk, S.fr.lbinj, S.fr.lbsize⟩, S.evo, S.new, S.dn, S.mnew⟩
  obtain ⟨cs, hcs0, e, ec⟩ := hB id cs' hcs
  obtain ⟨b1, xs, ty, g1, g2, g3, g4, g5, g6⟩ := S.fr.box id cs hcs0
  exact ⟨b1, xs, ty, g1, g2, g3, g4, e.rel g5, ec g6⟩
theorem VLes.app : ∀ (l : List AV) {v v' : AV}, VLe v v' → VLes (l ++ [v]) (l ++ [v'])
  | [], _, _, h => by simp only [List.nil_append, VLes]; exact ⟨_, _, rfl, h, rfl⟩
  | x :: l, _, _, h => by simp only [List.cons_append, VLes]; exact ⟨x, _, rfl, VLe.refl x, VLes.app l h⟩
/-- A box whose last cell is a heap slice, or nil: the slice is given away. -/
theorem ASem.cutB {r : Option Nat} {n : Nat} {code : Code} {Q : Exit → AS → Prop} {T : Nat → AV} {B : Bid → Option (List AV)} {M : List Nat} {H : AH} {id : Bid} {pre : List AV} (z : Nat) {l : List (List AV)}
    (hpre : ∀ b k, frzs b k pre = pre) (hd : (l = [] ∧ B id = some (pre ++ [.nils])) ∨ ∃ b, B id = some (pre ++ [.slc b z 0 l.length]) ∧ H.at_ b = some ⟨z, l⟩)
    (h : ∀ H', ASem P r n code Q ⟨T, upd B id (some (pre ++ [.lst z l])), M, H'⟩) : ASem P r n code Q ⟨T, B, M, H⟩ := by
  rcases hd with ⟨rfl, h1⟩ | ⟨b, h1, h2⟩
  · refine ASem.leB (fun i cs' hcs => ?_) (h H)
    by_cases e : i = id
    · subst e
      rw [upd_same] at hcs
      refine ⟨_, h1, ?_, ?_⟩
      · rw [← Option.some.inj hcs]; exact VLes.app pre (VLe.nils z)
      · rw [← Option.some.inj hcs]; simp [AV.cell]
    · rw [upd_ne _ _ e] at hcs
      exact ⟨cs', hcs, VLes.refl cs', fun h => h⟩
  · refine ASem.frzB (T' := T) (B' := upd B id (some (pre ++ [.lst z l]))) h2 (fun _ => .inl rfl) (fun i cs' hid => ?_) (h _)
    by_cases e : i = id
    · subst e
      rw [upd_same] at hid
      refine ⟨_, h1, .inr ?_⟩
      rw [← Option.some.inj hid]
      have e2 : frzs b ⟨z, l⟩ (pre ++ [.slc b z 0 l.length]) = frzs b ⟨z, l⟩ pre ++ [.lst z l] := by
        rw [frzs_map, frzs_map, List.map_append]
        simp [frz]
      rw [e2, hpre]
    · rw [upd_ne _ _ e] at hid
      exact ⟨_, hid, .inl rfl⟩
end
attribute [local irreducible] thenA blockA awp awpOps awpD awp1
set_option maxHeartbeats 8000000
set_option maxRecDepth 20000
def fpre (f : Fl) : List AV := [.int .i64 f.len, .int .i64 f.wid, .int .i64 f.front, .int .i64 f.rear, .int .i64 f.turn, .int .i64 f.kilos, .int .i64 f.mid, .int .i64 f.high]
theorem fpre_frz (f : Fl) (b : Bid) (k : Blk) : frzs b k (fpre f) = fpre f := rfl
end Go.Proofs.Ytkjpceapflhmnaa
