/- Contracts of functions that the claim reaches: what each call gives, told in our own logic. Conditions: those of each theorem. -/
import Derived.Test.YtbbkeakbomngoaaBaseD
import Derived.Test.YtbbkeakbomngoaaG49
set_option linter.all false
set_option linter.unusedSimpArgs false
set_option linter.unusedVariables false
namespace Go.Proofs.Ytbbkeakbomngoaa
open Go.Av
attribute [local irreducible] thenA blockA awp awpOps awpD awp1
set_option maxHeartbeats 8000000
set_option maxRecDepth 20000
/-! ### Tables that are one's own -/
theorem put_self {H : AH} {b : Nat × Nat} {k : Option Blk} (hb : H.at_ b = k) : H.put b k = H := by
  subst hb
  unfold AH.put
  cases H with
  | mk a lp clk => 
    dsimp only
    congr
    funext i
    simp only [upd_apply]
    split
    · rename_i e; rw [e]
    · rfl
theorem map_lel {O : List (List Int)} {i : Nat} (h : i < O.length) : (O.map fun r => r.map iv).getD i [] = (lel O i).map iv := by
  rw [List.getD_eq_getElem?_getD, List.getElem?_map]
  unfold lel
  rw [List.getD_eq_getElem?_getD, List.getElem?_eq_getElem h]; rfl
theorem mix_rows {bs : Nat → Nat × Nat} {X : List (List Int)} {J : Nat} {r : List Int} (hJ : J < X.length) (hr : r.length = (lel X J).length) : mixR 0 bs ((X.set J r).map fun r => r.map iv) = rowsN bs X X.length := by
  unfold mixR rowsN
  rw [List.length_map, List.length_set]
  refine List.map_congr_left fun i hi => ?_
  have hi' := List.mem_range.1 hi
  rw [if_neg (Nat.not_lt_zero _)]
  have e : ((X.set J r).map fun r => r.map iv).getD i [] = (lel (X.set J r) i).map iv := by
    exact map_lel (by rw [List.length_set]; exact hi')
  rw [e, lel_set hJ]
  split
  · rename_i e; subst e
    unfold nrow; rw [List.length_map, List.length_map, hr]
  · rfl
theorem iv_fix {b : Nat × Nat} {k : Blk} (r : List Int) : frzss b k (r.map iv) = r.map iv := frzss_fix _ fun x hx v hv => by
  obtain ⟨y, _, rfl⟩ := List.mem_map.1 hx
  rw [show iv y = [.int .i64 y] from rfl, List.mem_singleton] at hv
  subst hv; rfl
end Go.Proofs.Ytbbkeakbomngoaa
