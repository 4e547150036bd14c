/- Contracts of functions that the claim reaches: what each call gives, told in our own logic. Conditions: those of each theorem. -/
import Derived.Test.YtbbkeakbomngoaaP9
import Derived.Test.YtbbkeakbomngoaaG42
import Derived.Test.YtbbkeakbomngoaaG31
set_option linter.all false
set_option linter.unusedSimpArgs false
set_option linter.unusedVariables false
namespace Go.Proofs.Ytbbkeakbomngoaa
open Go.Av
set_option maxRecDepth 20000
/-! ### All traces, and what they take from a fund -/
theorem allL_valid {l : Lg} (hl : LgOk l) {x : List (List Int)} : x ∈ allL l ↔ Valid l x := by
  constructor
  · refine trN_sound hl _ _ _ _ _ ⟨Nat.zero_le _, fun i hi => absurd hi (Nat.not_lt_zero _), Nat.zero_le _, fun f => by rw [elt_nil]; omega, fun f hf => by rw [elt_nil] at hf; omega, fun _ => rfl, fun h => ?_, nextA_nn hl _, show (amtL l).length = l.fs.length from List.length_map _, fun f hf => ?_, fun f hf => ?_⟩ x
    · have h' : 0 < l.bs.length := h
      unfold nextA
      rw [if_pos h', sumF_zero (fun i _ => elt_nil i)]
      show _ = (bl l.bs 0).amt - 0
      omega
    · show elt (amtL l) f = _
      rw [amtL_elt hf, elt_nil]
      show _ = _ - (0 : Int) - 0
      omega
    · show 0 ≤ elt (amtL l) f
      rw [amtL_elt hf]; exact (hl.f _ (fd_mem hf)).amt.1
  · intro hv
    have h := trN_complete hv (allK l) 0 0 (Nat.zero_le _) (Nat.zero_le _) (by unfold allK; rw [Nat.sub_zero, Nat.sub_zero]; omega)
    have e1 : prefL l x 0 0 = amtL l := by
      refine elt_ext (by rw [prefL_len]; unfold amtL; rw [List.length_map]) fun g hg => ?_
      rw [prefL_len] at hg
      rw [prefL_elt hg, amtL_elt hg, if_neg (Nat.not_lt_zero _)]
      show _ - (0 : Int) - 0 = _
      omega
    have e2 : prefN l x 0 0 = nextA l 0 := by
      unfold nextA prefN
      by_cases hh : 0 < l.bs.length
      · rw [if_pos hh, if_pos hh, show sumF (elt (lel x 0)) 0 = 0 from rfl, Int.sub_zero]
      · rw [if_neg hh, if_neg hh]
    rw [e1, e2, List.take_zero, List.take_zero] at h
    exact h
/-- What a table takes from a fund. -/
def colV (l : Lg) (x : List (List Int)) (f : Nat) : Int := sumF (fun i => elt (lel x i) f) l.bs.length
theorem valid_slack {l : Lg} {x : List (List Int)} (hv : Valid l x) {r : List Int} (hr : ∀ f, f < l.fs.length → colV l x f ≤ r.getD f 0) (s : Int) : 0 ≤ slackB l r s := by
  have h1 : dueB l s = sumF (fun f => sumF (fun i => if hasB s (i : Nat) = true then elt (lel x i) f else 0) l.bs.length) l.fs.length := by
    rw [← sumF_swap (fun i f => if hasB s (i : Nat) = true then elt (lel x i) f else 0)]
    unfold dueB
    refine sumF_congr fun i hi => ?_
    unfold dueF
    rw [← (hv.row i hi).sum]
    cases hb : hasB s ((i : Nat) : Int)
    · rw [if_neg (by simp)]
      exact (sumF_zero (fun f _ => by simp)).symm
    · rw [if_pos rfl]
      exact sumF_congr fun f _ => by simp
  have h2 : dueB l s ≤ sumF (givF l r s) l.fs.length := by
    rw [h1]
    refine sumF_mono fun f hf => ?_
    unfold givF
    by_cases hp : payerB l f s = true
    · rw [if_pos hp]
      refine Int.le_trans (sumF_mono fun i hi => ?_) (hr f hf)
      split
      · exact Int.le_refl _
      · exact (hv.row i hi).nn f
    · rw [if_neg hp]
      refine Int.le_of_eq (sumF_zero fun i hi => ?_)
      split
      · rename_i hb
        have h0 := (hv.row i hi).nn f
        by_cases hz : 0 < elt (lel x i) f
        · exact absurd (List.any_eq_true.2 ⟨i, List.mem_range.2 hi, by rw [hb, (hv.row i hi).can f hz]; rfl⟩) hp
        · omega
      · rfl
  unfold slackB
  omega
theorem trace_valid {l : Lg} (hl : LgOk l) (hp : prf l = none) : Valid l (traceL l) := by
  have hlen : (traceL l).length = l.bs.length := by unfold traceL; simp
  have hget : ∀ i, i < l.bs.length → lel (traceL l) i = rowN l i := fun i hi => by
    unfold lel traceL
    simp [List.getD_eq_getElem?_getD, hi]
  have hrl : ∀ i, i < l.bs.length → (rowW l i).length = 8 := fun i hi => by
    obtain ⟨h1, h2⟩ := rsN_ok hl hp i (by omega)
    exact (tsN_ok hl hi h1 h2 l.fs.length (Nat.le_refl _)).len
  have hfn := hl.fn
  have helt : ∀ i f, i < l.bs.length → elt (rowN l i) f = elt (rowW l i) f := fun i f hi => by
    by_cases hf : f < l.fs.length
    · show elt ((rowW l i).take l.fs.length) f = _
      unfold elt
      simp only [List.getD_eq_getElem?_getD, List.getElem?_take, hf, if_true]
    · have h1 : elt (rowN l i) f = 0 := elt_out (by show ((rowW l i).take l.fs.length).length ≤ f; rw [List.length_take]; omega)
      have h2 := row_nn hl hp hi f
      by_cases hz : 0 < elt (rowW l i) f
      · exact absurd (row_can hl hp hi hz).1 hf
      · omega
  have hcol : ∀ f m, m ≤ l.bs.length → sumF (fun i => elt (lel (traceL l) i) f) m = elt (rsN l 0) f - elt (rsN l m) f := by
    intro f m
    induction m with
    | zero => intro _; show (0 : Int) = _; omega
    | succ m ih =>
      intro hm
      show sumF _ m + elt (lel (traceL l) m) f = _
      rw [ih (by omega), hget m (by omega), helt m f (by omega), rest_step hl hp (by omega : m < l.bs.length) f]; omega
  refine ⟨hlen, fun i hi => ?_, fun f hf => ?_⟩
  · rw [hget i hi]
    refine ⟨?_, fun f => by rw [helt i f hi]; exact row_nn hl hp hi f, fun f hf => ?_, ?_⟩
    · show ((rowW l i).take l.fs.length).length = _
      rw [List.length_take, hrl i hi]; omega
    · rw [helt i f hi] at hf; exact (row_can hl hp hi hf).2
    · rw [sumF_congr fun f _ => helt i f hi]; exact row_sum hl hp hi
  · rw [hcol f _ (Nat.le_refl _)]
    have h1 := rest_nn hl hp l.bs.length (Nat.le_refl _) f (by omega)
    have h2 : elt (rsN l 0) f = (fd l.fs f).amt := amts_get (by omega)
    omega
theorem none_of_valid {l : Lg} (hl : LgOk l) {x : List (List Int)} (hv : Valid l x) : prf l = none := by
  have hfn := hl.fn
  exact prf_none_of fun s => valid_slack hv (fun f hf => by rw [amts_get (by omega)]; exact hv.col f hf) s
end Go.Proofs.Ytbbkeakbomngoaa
