/- Contracts of functions that the claim reaches: what each call gives, told in our own logic. Conditions: those of each theorem. -/
import Derived.Test.YtbbkeakbomngoaaG8
import Derived.Test.YtbbkeakbomngoaaG10
set_option linter.all false
set_option linter.unusedSimpArgs false
set_option linter.unusedVariables false
namespace Go.Proofs.Ytbbkeakbomngoaa
open Go.Av
set_option maxHeartbeats 8000000
set_option maxRecDepth 20000
/-! ### What a trace is -/
theorem elt_set {l : List Int} {k : Nat} {v : Int} (hk : k < l.length) (j : Nat) : elt (l.set k v) j = if j = k then v else elt l j := by
  unfold elt
  simp only [List.getD_eq_getElem?_getD, List.getElem?_set]
  by_cases e : k = j
  · subst e; simp [hk]
  · have : ¬ j = k := fun h => e h.symm
    simp [e, this]
/-- What a fund's turn leaves. -/
structure TsRow (l : Lg) (i k : Nat) (rs : List Int) (t : TS) : Prop where
  rs : ∀ f, elt t.rs f = elt rs f - elt t.row f
  zero : ∀ f, k ≤ f → elt t.row f = 0
  nn : ∀ f, 0 ≤ elt t.row f
  can : ∀ f, 0 < elt t.row f → f < k ∧ payB (fd l.fs f) (bl l.bs i) = true
  need : t.need = (bl l.bs i).amt - sumF (elt t.row) k
theorem TsRow.next {l : Lg} (hl : LgOk l) {i k : Nat} {rs : List Int} {t : TS} (hi : i < l.bs.length) (hk : k < l.fs.length) (ht : TsOk l i k t) (h : TsRow l i k rs t) : TsRow l i (k + 1) rs (t.step l i k) := by
  have hfn := hl.fn
  have hp := pow_bd l.bs.length (by have := hl.bn; omega)
  unfold TS.step
  cases hc : payB (fd l.fs k) (bl l.bs i)
  · simp only [Bool.false_eq_true, if_false]
    refine ⟨h.rs, fun f hf => h.zero f (by omega), h.nn, fun f hf => ⟨by have := (h.can f hf).1; omega, (h.can f hf).2⟩, ?_⟩
    show t.need = _ - (sumF (elt t.row) k + elt t.row k)
    rw [h.zero k (Nat.le_refl _), h.need]; omega
  · simp only [if_true]
    have h0 : 0 ≤ t.n l i k := (ht.n_nn hl hi hk (2 ^ l.bs.length) (Nat.le_refl _)).1
    generalize t.n l i k = n at *
    have er := elt_set (l := t.row) (k := k) (v := n) (by rw [ht.len]; omega)
    have es := elt_set (l := t.rs) (k := k) (v := t.rs.getD k 0 - n) (by rw [ht.rs.1]; omega)
    have ez := h.zero k (Nat.le_refl _)
    have ek := h.rs k
    have ed : t.rs.getD k 0 = elt t.rs k := rfl
    refine ⟨fun f => ?_, fun f hf => ?_, fun f => ?_, fun f hf => ?_, ?_⟩
    · show elt (t.rs.set k _) f = _ - elt (t.row.set k _) f
      rw [er, es]
      by_cases e : f = k
      · subst e; rw [if_pos rfl, if_pos rfl, ed]; omega
      · rw [if_neg e, if_neg e]; exact h.rs f
    · show elt (t.row.set k _) f = 0
      rw [er, if_neg (by omega)]; exact h.zero f (by omega)
    · show 0 ≤ elt (t.row.set k _) f
      rw [er]; split
      · exact h0
      · exact h.nn f
    · have hf' : 0 < elt (t.row.set k n) f := hf
      rw [er] at hf'
      by_cases e : f = k
      · subst e; exact ⟨by omega, hc⟩
      · rw [if_neg e] at hf'
        exact ⟨by have := (h.can f hf').1; omega, (h.can f hf').2⟩
    · show t.need - n = _ - (sumF (elt (t.row.set k n)) k + elt (t.row.set k n) k)
      rw [sumF_congr (F := elt (t.row.set k n)) (G := elt t.row) (n := k) (fun j hj => by rw [er, if_neg (by omega)]), er, if_pos rfl, h.need]
      omega
section
variable {l : Lg} (hl : LgOk l) (hp : prf l = none)
include hl hp
end
end Go.Proofs.Ytbbkeakbomngoaa
