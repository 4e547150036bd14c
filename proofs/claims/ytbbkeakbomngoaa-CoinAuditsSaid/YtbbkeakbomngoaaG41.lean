/- Contracts of functions that the claim reaches: what each call gives, told in our own logic. Conditions: those of each theorem. -/
import Derived.Test.YtbbkeakbomngoaaG40
import Derived.Test.YtbbkeakbomngoaaGT
import Derived.Test.YtbbkeakbomngoaaP8
set_option linter.all false
set_option linter.unusedSimpArgs false
set_option linter.unusedVariables false
namespace Go.Proofs.Ytbbkeakbomngoaa
open Go.Av
attribute [local irreducible] thenA blockA awp awpOps awpD awp1
set_option maxHeartbeats 8000000
set_option maxRecDepth 20000
/-! ### All traces: the recursion -/
def rowT (t : List (List Int)) : List AV := [.lst 1 (t.map rowA)]
/-- What has been gathered: in a block, or nothing. -/
def OutP (h : AH) (v : AV) (O : List (List (List Int))) : Prop := (v = .nils ∧ O = []) ∨ ∃ b : Nat × Nat, v = .slc b 1 0 O.length ∧ h.at_ b = some ⟨1, O.map rowT⟩ ∧ b.1 < h.clk
theorem OutP.to {g g' : AH} {v : AV} {O : List (List (List Int))} (h : OutP g v O) (hk : ∀ b m, v = .slc b 1 0 m → b.1 < g.clk → g'.at_ b = g.at_ b) (hc : g.clk ≤ g'.clk) : OutP g' v O := by
  rcases h with h | ⟨b, h1, h2, h3⟩
  · exact .inl h
  · exact .inr ⟨b, h1, by rw [hk b _ h1 h3]; exact h2, by omega⟩
theorem OutP.noL {g : AH} {v : AV} {O : List (List (List Int))} (h : OutP g v O) : noL v = true := by
  rcases h with ⟨rfl, _⟩ | ⟨b, rfl, _⟩ <;> rfl
end Go.Proofs.Ytbbkeakbomngoaa
