/- Contracts of functions that the claim reaches: what each call gives, told in our own logic. Conditions: those of each theorem. -/
import Derived.Test.YtbbkeakbomngoaaP9
import Derived.Test.YtbbkeakbomngoaaG42
import Derived.Test.YtbbkeakbomngoaaG31
set_option linter.all false
set_option linter.unusedSimpArgs false
set_option linter.unusedVariables false
namespace Go.Proofs.Ytbbkeakbomngoaa
open Go.Av
set_option maxRecDepth 20000
/-! ### All traces, and what they take from a fund -/
theorem trace_valid {l : Lg} (hl : LgOk l) (hp : prf l = none) : Valid l (traceL l) := by
  have hlen : (traceL l).length = l.bs.length := by unfold traceL; simp
  have hget : ∀ i, i < l.bs.length → lel (traceL l) i = rowN l i := fun i hi => by
    unfold lel traceL
    simp [List.getD_eq_getElem?_getD, hi]
  have hrl : ∀ i, i < l.bs.length → (rowW l i).length = 8 := fun i hi => by
    obtain ⟨h1, h2⟩ := rsN_ok hl hp i (by omega)
    exact (tsN_ok hl hi h1 h2 l.fs.length (Nat.le_refl _)).len
  have hfn := hl.fn
  have helt : ∀ i f, i < l.bs.length → elt (rowN l i) f = elt (rowW l i) f := fun i f hi => by
    by_cases hf : f < l.fs.length
    · show elt ((rowW l i).take l.fs.length) f = _
      unfold elt
      simp only [List.getD_eq_getElem?_getD, List.getElem?_take, hf, if_true]
    · have h1 : elt (rowN l i) f = 0 := elt_out (by show ((rowW l i).take l.fs.length).length ≤ f; rw [List.length_take]; omega)
      have h2 := row_nn hl hp hi f
      by_cases hz : 0 < elt (rowW l i) f
      · exact absurd (row_can hl hp hi hz).1 hf
      · omega
  have hcol : ∀ f m, m ≤ l.bs.length → sumF (fun i => elt (lel (traceL l) i) f) m = elt (rsN l 0) f - elt (rsN l m) f := by
    intro f m
    induction m with
    | zero => intro _; show (0 : Int) = _; omega
    | succ m ih =>
      intro hm
      show sumF _ m + elt (lel (traceL l) m) f = _
      rw [ih (by omega), hget m (by omega), helt m f (by omega), rest_step hl hp (by omega : m < l.bs.length) f]; omega
  refine ⟨hlen, fun i hi => ?_, fun f hf => ?_⟩
  · rw [hget i hi]
    refine ⟨?_, fun f => by rw [helt i f hi]; exact row_nn hl hp hi f, fun f hf => ?_, ?_⟩
    · show ((rowW l i).take l.fs.length).length = _
      rw [List.length_take, hrl i hi]; omega
    · rw [helt i f hi] at hf; exact (row_can hl hp hi hf).2
    · rw [sumF_congr fun f _ => helt i f hi]; exact row_sum hl hp hi
  · rw [hcol f _ (Nat.le_refl _)]
    have h1 := rest_nn hl hp l.bs.length (Nat.le_refl _) f (by omega)
    have h2 : elt (rsN l 0) f = (fd l.fs f).amt := amts_get (by omega)
    omega
theorem lel_set {t : List (List Int)} {i : Nat} (hi : i < t.length) (r : List Int) (j : Nat) : lel (t.set i r) j = if j = i then r else lel t j := by
  unfold lel
  simp only [List.getD_eq_getElem?_getD, List.getElem?_set]
  by_cases e : i = j
  · subst e; rw [if_pos rfl, if_pos rfl, if_pos hi]; rfl
  · rw [if_neg e, if_neg (fun h => e h.symm)]
end Go.Proofs.Ytbbkeakbomngoaa
