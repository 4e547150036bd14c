/- Contracts of functions that the claim reaches: what each call gives, told in our own logic. Conditions: those of each theorem. -/
import Derived.Test.YtkjpceapflhmnaaF2
import Derived.Test.YtkjpceapflhmnaaBaseC
set_option linter.all false
set_option linter.unusedSimpArgs false
set_option linter.unusedVariables false
namespace Go.Proofs.Ytkjpceapflhmnaa
open Go.Av
attribute [local irreducible] Shp
set_option maxRecDepth 20000
/-! ### Plain data of the types of this seat -/
def I64 (n : Int) : Prop := -9223372036854775808 ≤ n ∧ n ≤ 9223372036854775807
theorem shpInt {d : Nat} {vs : List AV} (h : Shp Try.prog (d + 1) 3 vs) : ∃ n, vs = [.int .i64 n] ∧ I64 n := by
  obtain ⟨n, e, hw⟩ := shp_int Try.underlying3 h
  exact ⟨n, e, wf_i64 hw⟩
theorem shpSpan {d : Nat} {vs : List AV} (h : Shp Try.prog (d + 2) 49 vs) : ∃ a b, vs = [.int .i64 a, .int .i64 b] := by
  obtain ⟨parts, rfl, hl, hp⟩ := shp_struct Try.underlying49 h
  match parts, hl, hp with
  | [p0, p1], _, hp =>
    obtain ⟨a, rfl, _⟩ := shpInt (hp 0 _ p0 rfl rfl)
    obtain ⟨b, rfl, _⟩ := shpInt (hp 1 _ p1 rfl rfl)
    exact ⟨a, b, rfl⟩
theorem shpLoad {d : Nat} {vs : List AV} (h : Shp Try.prog (d + 3) 60 vs) : ∃ x : Ld, vs = x.row := by
  obtain ⟨parts, rfl, hl, hp⟩ := shp_struct Try.underlying60 h
  match parts, hl, hp with
  | [p0, p1, p2, p3, p4], _, hp =>
    obtain ⟨a, rfl, _⟩ := shpInt (hp 0 _ p0 rfl rfl)
    obtain ⟨b, c, rfl⟩ := shpSpan (hp 1 _ p1 rfl rfl)
    obtain ⟨e, f, rfl⟩ := shpSpan (hp 2 _ p2 rfl rfl)
    obtain ⟨g, rfl, _⟩ := shpInt (hp 3 _ p3 rfl rfl)
    obtain ⟨k, rfl, _⟩ := shpInt (hp 4 _ p4 rfl rfl)
    exact ⟨⟨a, b, c, e, f, g, k⟩, rfl⟩
theorem shpLoads {d : Nat} {vs : List AV} (h : Shp Try.prog (d + 4) 25 vs) : ∃ l : List Ld, vs = [.lst 7 (l.map Ld.row)] ∧ l.length ≤ maxLen := by
  obtain ⟨l, e, h1, _⟩ := shp_slice (f := Ld.row) (q := fun _ => True) Try.underlying25 cel60 h fun r hr => by
    obtain ⟨x, e⟩ := shpLoad hr
    exact ⟨x, e, trivial⟩
  exact ⟨l, e, h1⟩
theorem shpFloat {d : Nat} {vs : List AV} (h : Shp Try.prog (d + 5) 27 vs) : ∃ f : Fl, .agg vs = f.av ∧ f.loads.length ≤ maxLen := by
  obtain ⟨parts, rfl, hl, hp⟩ := shp_struct Try.underlying27 h
  match parts, hl, hp with
  | [p0, p1, p2, p3, p4, p5, p6, p7, p8], _, hp =>
    obtain ⟨a0, rfl, _⟩ := shpInt (hp 0 _ p0 rfl rfl)
    obtain ⟨a1, rfl, _⟩ := shpInt (hp 1 _ p1 rfl rfl)
    obtain ⟨a2, rfl, _⟩ := shpInt (hp 2 _ p2 rfl rfl)
    obtain ⟨a3, rfl, _⟩ := shpInt (hp 3 _ p3 rfl rfl)
    obtain ⟨a4, rfl, _⟩ := shpInt (hp 4 _ p4 rfl rfl)
    obtain ⟨a5, rfl, _⟩ := shpInt (hp 5 _ p5 rfl rfl)
    obtain ⟨a6, rfl, _⟩ := shpInt (hp 6 _ p6 rfl rfl)
    obtain ⟨a7, rfl, _⟩ := shpInt (hp 7 _ p7 rfl rfl)
    obtain ⟨l, rfl, hl⟩ := shpLoads (hp 8 _ p8 rfl rfl)
    exact ⟨⟨a0, a1, a2, a3, a4, a5, a6, a7, l⟩, rfl, hl⟩
theorem shpHurdle {d : Nat} {vs : List AV} (h : Shp Try.prog (d + 2) 32 vs) : ∃ x : Hu, vs = x.row := by
  obtain ⟨parts, rfl, hl, hp⟩ := shp_struct Try.underlying32 h
  match parts, hl, hp with
  | [p0, p1, p2], _, hp =>
    obtain ⟨a, rfl, _⟩ := shpInt (hp 0 _ p0 rfl rfl)
    obtain ⟨b, rfl, _⟩ := shpInt (hp 1 _ p1 rfl rfl)
    obtain ⟨c, rfl, _⟩ := shpInt (hp 2 _ p2 rfl rfl)
    exact ⟨⟨a, b, c⟩, rfl⟩
theorem shpRoute {d : Nat} {vs : List AV} (h : Shp Try.prog (d + 3) 37 vs) : ∃ l : List Hu, vs = [.lst 3 (l.map Hu.row)] ∧ l.length ≤ maxLen := by
  obtain ⟨l, e, h1, _⟩ := shp_slice (f := Hu.row) (q := fun _ => True) Try.underlying37 cel32 h fun r hr => by
    obtain ⟨x, e⟩ := shpHurdle hr
    exact ⟨x, e, trivial⟩
  exact ⟨l, e, h1⟩
theorem shpNums {d : Nat} {vs : List AV} (h : Shp Try.prog (d + 2) 22 vs) : ∃ l : List Int, vs = [.lst 1 (l.map iv)] ∧ l.length ≤ maxLen := by
  obtain ⟨l, e, h1, _⟩ := shp_slice (f := iv) (q := fun _ => True) Try.underlying22 cel3 h fun r hr => by
    obtain ⟨x, e, _⟩ := shpInt hr
    exact ⟨x, e, trivial⟩
  exact ⟨l, e, h1⟩
end Go.Proofs.Ytkjpceapflhmnaa
