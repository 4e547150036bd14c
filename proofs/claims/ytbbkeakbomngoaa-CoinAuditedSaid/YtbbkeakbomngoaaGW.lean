/- Contracts of functions that the claim reaches: what each call gives, told in our own logic. Conditions: those of each theorem. -/
import Derived.Test.YtbbkeakbomngoaaG17
set_option linter.all false
set_option linter.unusedSimpArgs false
set_option linter.unusedVariables false
namespace Go.Proofs.Ytbbkeakbomngoaa
open Go.Av
attribute [local irreducible] thenA blockA awp awpOps awpD awp1
set_option maxHeartbeats 8000000
set_option maxRecDepth 20000
/-! ### A ledger of one's own -/
theorem frz_bl {b : Nat × Nat} {k : Blk} (bs : List Bl) : frz b k (.lst 3 (bs.map Bl.row)) = .lst 3 (bs.map Bl.row) := by
  simp only [frz, frzss_map, List.map_map]
  congr 1
theorem frz_fd {b : Nat × Nat} {k : Blk} (fs : List Fd) : frz b k (.lst 4 (fs.map Fd.row)) = .lst 4 (fs.map Fd.row) := by
  simp only [frz, frzss_map, List.map_map]
  congr 1
  refine List.map_congr_left fun x _ => ?_
  simp only [Function.comp, Fd.row, List.map_cons, List.map_nil, frz, frzss_map, List.map_map]
  congr 5
theorem frz_ne {b b1 : Nat × Nat} {k : Blk} {z m : Nat} (h : b1 ≠ b) : frz b k (.slc b1 z 0 m) = .slc b1 z 0 m := by
  simp only [frz]
  rw [if_neg (fun hh => h hh.1)]
end Go.Proofs.Ytbbkeakbomngoaa
