/- Contracts of functions that the claim reaches: what each call gives, told in our own logic. Conditions: those of each theorem. -/
import Derived.Test.YtbbkeakbomngoaaG11
import Derived.Test.YtbbkeakbomngoaaBaseC
set_option linter.all false
set_option linter.unusedSimpArgs false
set_option linter.unusedVariables false
namespace Go.Proofs.Ytbbkeakbomngoaa
open Go.Av
attribute [local irreducible] Shp
set_option maxRecDepth 20000
/-! ### Plain data of the types of this seat -/
def I64 (n : Int) : Prop := -9223372036854775808 ≤ n ∧ n ≤ 9223372036854775807
theorem shpInt {d : Nat} {vs : List AV} (h : Shp Try.prog (d + 1) 3 vs) : ∃ n, vs = [.int .i64 n] ∧ I64 n := by
  obtain ⟨n, e, hw⟩ := shp_int Try.underlying3 h
  exact ⟨n, e, wf_i64 hw⟩
theorem shpNums {d : Nat} {vs : List AV} (h : Shp Try.prog (d + 2) 28 vs) : ∃ l : List Int, vs = [.lst 1 (l.map iv)] ∧ l.length ≤ maxLen := by
  obtain ⟨l, e, h1, _⟩ := shp_slice (f := iv) (q := fun _ => True) Try.underlying28 cel3 h fun r hr => by
    obtain ⟨x, e, _⟩ := shpInt hr
    exact ⟨x, e, trivial⟩
  exact ⟨l, e, h1⟩
def Fd.small (x : Fd) : Prop := x.uses.length ≤ maxLen
theorem shpFund {d : Nat} {vs : List AV} (h : Shp Try.prog (d + 3) 59 vs) : ∃ x : Fd, vs = x.row ∧ x.small := by
  obtain ⟨parts, rfl, hl, hp⟩ := shp_struct Try.underlying59 h
  match parts, hl, hp with
  | [p0, p1, p2, p3], _, hp =>
    obtain ⟨a, rfl, _⟩ := shpInt (hp 0 _ p0 rfl rfl)
    obtain ⟨b, rfl, _⟩ := shpInt (hp 1 _ p1 rfl rfl)
    obtain ⟨c, rfl, _⟩ := shpInt (hp 2 _ p2 rfl rfl)
    obtain ⟨l, rfl, hl⟩ := shpNums (hp 3 _ p3 rfl rfl)
    exact ⟨⟨a, b, c, l⟩, rfl, hl⟩
theorem shpFunds {d : Nat} {vs : List AV} (h : Shp Try.prog (d + 4) 22 vs) : ∃ l : List Fd, vs = [.lst 4 (l.map Fd.row)] ∧ l.length ≤ maxLen ∧ ∀ x ∈ l, x.small :=
  shp_slice (f := Fd.row) (q := Fd.small) Try.underlying22 cel59 h fun r hr => shpFund hr
theorem shpBill {d : Nat} {vs : List AV} (h : Shp Try.prog (d + 2) 27 vs) : ∃ x : Bl, vs = x.row := by
  obtain ⟨parts, rfl, hl, hp⟩ := shp_struct Try.underlying27 h
  match parts, hl, hp with
  | [p0, p1, p2], _, hp =>
    obtain ⟨a, rfl, _⟩ := shpInt (hp 0 _ p0 rfl rfl)
    obtain ⟨b, rfl, _⟩ := shpInt (hp 1 _ p1 rfl rfl)
    obtain ⟨c, rfl, _⟩ := shpInt (hp 2 _ p2 rfl rfl)
    exact ⟨⟨a, b, c⟩, rfl⟩
theorem shpBills {d : Nat} {vs : List AV} (h : Shp Try.prog (d + 3) 23 vs) : ∃ l : List Bl, vs = [.lst 3 (l.map Bl.row)] ∧ l.length ≤ maxLen := by
  obtain ⟨l, e, h1, _⟩ := shp_slice (f := Bl.row) (q := fun _ => True) Try.underlying23 cel27 h fun r hr => by
    obtain ⟨x, e⟩ := shpBill hr
    exact ⟨x, e, trivial⟩
  exact ⟨l, e, h1⟩
structure Lg.small (l : Lg) : Prop where
  fs : l.fs.length ≤ maxLen
  us : ∀ x ∈ l.fs, x.small
  bs : l.bs.length ≤ maxLen
theorem shpLedger {d : Nat} {vs : List AV} (h : Shp Try.prog (d + 5) 25 vs) : ∃ l : Lg, .agg vs = l.av ∧ l.small := by
  obtain ⟨parts, rfl, hl, hp⟩ := shp_struct Try.underlying25 h
  match parts, hl, hp with
  | [p0, p1], _, hp =>
    obtain ⟨a, rfl, h1, h2⟩ := shpFunds (hp 0 _ p0 rfl rfl)
    obtain ⟨b, rfl, h3⟩ := shpBills (hp 1 _ p1 rfl rfl)
    exact ⟨⟨a, b⟩, rfl, ⟨h1, h2, h3⟩⟩
theorem shpLists {d : Nat} {vs : List AV} (h : Shp Try.prog (d + 3) 38 vs) : ∃ l : List (List Int), vs = [.lst 1 (l.map rowA)] ∧ l.length ≤ maxLen ∧ ∀ x ∈ l, x.length ≤ maxLen :=
  shp_slice (f := rowA) (q := fun x => x.length ≤ maxLen) Try.underlying38 cel28 h fun r hr => shpNums hr
end Go.Proofs.Ytbbkeakbomngoaa
