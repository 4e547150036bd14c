/- Contracts of functions that the claim reaches: what each call gives, told in our own logic. Conditions: those of each theorem. -/
import Derived.Test.YthjbfdfhblloiaaW4
set_option linter.all false
set_option linter.unusedSimpArgs false
set_option linter.unusedVariables false
namespace Go.Proofs.Ythjbfdfhblloiaa
open Go.Av
set_option maxRecDepth 20000
theorem ClOk.pw {t : Tw} {c : List Int} {n : Nat} (h : ClOk t c n) : c.Pairwise (· < ·) := by
  have key : ∀ k i, i + k + 1 < c.length → elt c i < elt c (i + k + 1) := by
    intro k
    induction k with
    | zero => intro i hi; have := h.up (i + 1) (by omega) hi; simpa using this
    | succ k ih =>
      intro i hi
      have h1 := ih i (by omega)
      have h2 := h.up (i + (k + 1) + 1) (by omega) hi
      rw [show i + (k + 1) + 1 - 1 = i + k + 1 by omega] at h2
      omega
  rw [List.pairwise_iff_getElem]
  intro i j hi hj hij
  have := key (j - i - 1) i (by omega)
  rw [show i + (j - i - 1) + 1 = j by omega] at this
  unfold elt at this
  rw [List.getD_eq_getElem?_getD, List.getD_eq_getElem?_getD, List.getElem?_eq_getElem hi, List.getElem?_eq_getElem hj] at this
  exact this
theorem ClOk.sub {t : Tw} {c d : List Int} {n : Nat} (h : ClOk t c n) (hs : d.Sublist c) : ClOk t d n := by
  have hp := h.pw.sublist hs
  refine ⟨Nat.le_trans hs.length_le h.len, fun i hi => ?_, fun i h0 hi => ?_⟩
  · have hm : elt d i ∈ c := hs.subset (elt_mem hi)
    obtain ⟨j, hj, e⟩ := List.mem_iff_getElem.1 hm
    have := h.bd j hj
    unfold elt at this
    rw [List.getD_eq_getElem?_getD, List.getElem?_eq_getElem hj] at this
    rw [← e]; exact this
  · rw [List.pairwise_iff_getElem] at hp
    have := hp (i - 1) i (by omega) hi (by omega)
    unfold elt
    rw [List.getD_eq_getElem?_getD, List.getD_eq_getElem?_getD, List.getElem?_eq_getElem hi, List.getElem?_eq_getElem (by omega : i - 1 < d.length)]
    exact this
theorem sub_add {c d : List Int} {i : Nat} (hi : i < c.length) (h : d.Sublist (c.take i)) : (d ++ [elt c i]).Sublist (c.take (i + 1)) := by
  rw [List.take_succ_eq_append_getElem hi]
  have : c[i] = elt c i := by unfold elt; rw [List.getD_eq_getElem?_getD, List.getElem?_eq_getElem hi]; rfl
  rw [this]
  exact h.append (List.Sublist.refl _)
theorem sub_skip {c d : List Int} {i : Nat} (h : d.Sublist (c.take i)) : d.Sublist (c.take (i + 1)) :=
  h.trans (List.take_sublist_take_left (Nat.le_succ _))
theorem wayV_at {t : Tw} {c : List Int} {frm to : Int} (h0 : cloE t c = 0) (h1 : 0 ≤ frm ∧ frm < t.rooms.length) (h2 : 0 ≤ to ∧ to < t.rooms.length) : wayV t c frm to = wayO t c frm to (dst t c to frm) := by
  unfold wayV; rw [if_neg (fun e => e h0), if_neg (by omega)]
end Go.Proofs.Ythjbfdfhblloiaa
