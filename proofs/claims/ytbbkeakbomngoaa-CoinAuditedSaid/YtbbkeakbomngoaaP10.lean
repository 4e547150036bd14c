/- Contracts of functions that the claim reaches: what each call gives, told in our own logic. Conditions: those of each theorem. -/
import Derived.Test.YtbbkeakbomngoaaP9
import Derived.Test.YtbbkeakbomngoaaG42
import Derived.Test.YtbbkeakbomngoaaG31
set_option linter.all false
set_option linter.unusedSimpArgs false
set_option linter.unusedVariables false
namespace Go.Proofs.Ytbbkeakbomngoaa
open Go.Av
set_option maxRecDepth 20000
/-! ### All traces, and what they take from a fund -/
theorem allL_valid {l : Lg} (hl : LgOk l) {x : List (List Int)} : x ∈ allL l ↔ Valid l x := by
  constructor
  · refine trN_sound hl _ _ _ _ _ ⟨Nat.zero_le _, fun i hi => absurd hi (Nat.not_lt_zero _), Nat.zero_le _, fun f => by rw [elt_nil]; omega, fun f hf => by rw [elt_nil] at hf; omega, fun _ => rfl, fun h => ?_, nextA_nn hl _, show (amtL l).length = l.fs.length from List.length_map _, fun f hf => ?_, fun f hf => ?_⟩ x
    · have h' : 0 < l.bs.length := h
      unfold nextA
      rw [if_pos h', sumF_zero (fun i _ => elt_nil i)]
      show _ = (bl l.bs 0).amt - 0
      omega
    · show elt (amtL l) f = _
      rw [amtL_elt hf, elt_nil]
      show _ = _ - (0 : Int) - 0
      omega
    · show 0 ≤ elt (amtL l) f
      rw [amtL_elt hf]; exact (hl.f _ (fd_mem hf)).amt.1
  · intro hv
    have h := trN_complete hv (allK l) 0 0 (Nat.zero_le _) (Nat.zero_le _) (by unfold allK; rw [Nat.sub_zero, Nat.sub_zero]; omega)
    have e1 : prefL l x 0 0 = amtL l := by
      refine elt_ext (by rw [prefL_len]; unfold amtL; rw [List.length_map]) fun g hg => ?_
      rw [prefL_len] at hg
      rw [prefL_elt hg, amtL_elt hg, if_neg (Nat.not_lt_zero _)]
      show _ - (0 : Int) - 0 = _
      omega
    have e2 : prefN l x 0 0 = nextA l 0 := by
      unfold nextA prefN
      by_cases hh : 0 < l.bs.length
      · rw [if_pos hh, if_pos hh, show sumF (elt (lel x 0)) 0 = 0 from rfl, Int.sub_zero]
      · rw [if_neg hh, if_neg hh]
    rw [e1, e2, List.take_zero, List.take_zero] at h
    exact h
theorem lel_set {t : List (List Int)} {i : Nat} (hi : i < t.length) (r : List Int) (j : Nat) : lel (t.set i r) j = if j = i then r else lel t j := by
  unfold lel
  simp only [List.getD_eq_getElem?_getD, List.getElem?_set]
  by_cases e : i = j
  · subst e; rw [if_pos rfl, if_pos rfl, if_pos hi]; rfl
  · rw [if_neg e, if_neg (fun h => e h.symm)]
end Go.Proofs.Ytbbkeakbomngoaa
