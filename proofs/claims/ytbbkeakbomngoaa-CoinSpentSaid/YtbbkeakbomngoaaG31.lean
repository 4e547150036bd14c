/- Contracts of functions that the claim reaches: what each call gives, told in our own logic. Conditions: those of each theorem. -/
import Derived.Test.YtbbkeakbomngoaaG30
set_option linter.all false
set_option linter.unusedSimpArgs false
set_option linter.unusedVariables false
namespace Go.Proofs.Ytbbkeakbomngoaa
open Go.Av
attribute [local irreducible] thenA blockA awp awpOps awpD awp1
set_option maxHeartbeats 8000000
set_option maxRecDepth 20000
/-! ### The reference: what is spent -/
theorem oth_slack {l : Lg} (hl : LgOk l) {k : Nat} (hk : k < l.fs.length) (s : Int) : slackB l (othR l k) s = slackB l (amts l.fs) s - (if payerB l k s then (fd l.fs k).amt else 0) := by
  have hfn := hl.fn
  have h1 := sumF_one (F := givF l (othR l k) s) (G := givF l (amts l.fs) s) (k := k) (n := l.fs.length) hk (fun i hi hik => by
    unfold givF othR
    simp only [List.getD_eq_getElem?_getD]
    rw [List.getElem?_set_ne (fun e => hik e.symm)])
  have e1 : givF l (othR l k) s k = 0 := by
    unfold givF othR
    simp only [List.getD_eq_getElem?_getD]
    rw [List.getElem?_set_self (by rw [amts_len]; omega)]
    simp
  have e2 : givF l (amts l.fs) s k = if payerB l k s then (fd l.fs k).amt else 0 := by
    unfold givF
    rw [amts_get (by omega)]
  unfold slackB
  rw [h1, e1, e2]
  split <;> omega
end Go.Proofs.Ytbbkeakbomngoaa
