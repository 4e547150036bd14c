/- Contracts of functions that the claim reaches: what each call gives, told in our own logic. Conditions: those of each theorem. -/
import Derived.Test.YtkjpceapflhmnaaF9
import Derived.Test.YtkjpceapflhmnaaF3
set_option linter.all false
set_option linter.unusedSimpArgs false
set_option linter.unusedVariables false
namespace Go.Proofs.Ytkjpceapflhmnaa
open Go.Av
theorem chkGood {f : Fl} {n : Int} (h : FlGood f n) (hn : n ≤ 20) : chkE f = 0 := by
  have h1 := h.len; have h2 := h.wid; have h3 := h.axles; have h4 := h.turn; have h5 := h.kilos; have h6 := h.mid; have h7 := h.high; have h8 := h.many
  have aux : ∀ l : List Ld, (∀ x ∈ l, LdGood f x) → loadsE f l = 0 := by
    intro l
    induction l with
    | nil => intro _; rfl
    | cons y l ih =>
      intro hl
      have hy := hl y (by simp)
      have e : loadE f y = 0 := by
        have g1 := hy.at_; have g2 := hy.kilos; have g3 := hy.top; have g4 := hy.kind; have g5 := hy.watts
        have s1 : spanE y.lo y.hi 100000 = 0 := by unfold spanE; rw [if_neg (by omega), if_neg (by omega)]
        have s2 : spanE y.tlo y.thi 2000 = 0 := by unfold spanE; rw [if_neg (by omega), if_neg (by omega)]
        unfold loadE
        rw [s1, s2, if_neg (by omega), if_neg (by omega), if_neg (by omega), if_neg (by omega), if_neg (by omega), if_neg (by omega)]
      unfold loadsE
      rw [if_neg (by omega)]
      exact ih fun x hx => hl x (by simp [hx])
  unfold chkE
  rw [if_neg (by omega), if_neg (by omega), if_neg (by omega), if_neg (by omega), if_neg (by omega), if_neg (by omega), if_neg (by omega), if_neg (by omega), if_neg (by omega)]
  exact aux _ h.loads
end Go.Proofs.Ytkjpceapflhmnaa
