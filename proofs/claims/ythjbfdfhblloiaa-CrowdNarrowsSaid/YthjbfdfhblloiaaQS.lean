/- Contracts of functions that the claim reaches: what each call gives, told in our own logic. Conditions: those of each theorem. -/
import Derived.Test.YthjbfdfhblloiaaQ3
import Derived.Test.YthjbfdfhblloiaaQ4
import Derived.Test.YthjbfdfhblloiaaBaseC
set_option linter.all false
set_option linter.unusedSimpArgs false
set_option linter.unusedVariables false
namespace Go.Proofs.Ythjbfdfhblloiaa
open Go.Av
attribute [local irreducible] Shp
set_option maxRecDepth 20000
/-! ### Plain data of the types of this seat -/
def I64 (n : Int) : Prop := -9223372036854775808 ≤ n ∧ n ≤ 9223372036854775807
theorem shpInt {d : Nat} {vs : List AV} (h : Shp Try.prog (d + 1) 3 vs) : ∃ n, vs = [.int .i64 n] ∧ I64 n := by
  obtain ⟨n, e, hw⟩ := shp_int Try.underlying3 h
  exact ⟨n, e, wf_i64 hw⟩
theorem shpNums {d : Nat} {vs : List AV} (h : Shp Try.prog (d + 2) 22 vs) : ∃ l : List Int, vs = [.lst 1 (l.map iv)] ∧ l.length ≤ maxLen := by
  obtain ⟨l, e, h1, _⟩ := shp_slice (f := iv) (q := fun _ => True) Try.underlying22 cel3 h fun r hr => by
    obtain ⟨x, e, _⟩ := shpInt hr
    exact ⟨x, e, trivial⟩
  exact ⟨l, e, h1⟩
end Go.Proofs.Ythjbfdfhblloiaa
