/- Contracts of functions that the claim reaches: what each call gives, told in our own logic. Conditions: those of each theorem. -/
import Derived.Test.YtbbkeakbomngoaaG8
import Derived.Test.YtbbkeakbomngoaaG10
set_option linter.all false
set_option linter.unusedSimpArgs false
set_option linter.unusedVariables false
namespace Go.Proofs.Ytbbkeakbomngoaa
open Go.Av
set_option maxHeartbeats 8000000
set_option maxRecDepth 20000
/-! ### What a trace is -/
/-- The whole row of the bill i, of eight numbers. -/
def rowW (l : Lg) (i : Nat) : List Int := (tsN l i (rsN l i) l.fs.length).row
theorem elt_set {l : List Int} {k : Nat} {v : Int} (hk : k < l.length) (j : Nat) : elt (l.set k v) j = if j = k then v else elt l j := by
  unfold elt
  simp only [List.getD_eq_getElem?_getD, List.getElem?_set]
  by_cases e : k = j
  · subst e; simp [hk]
  · have : ¬ j = k := fun h => e h.symm
    simp [e, this]
/-- What a fund's turn leaves. -/
structure TsRow (l : Lg) (i k : Nat) (rs : List Int) (t : TS) : Prop where
  rs : ∀ f, elt t.rs f = elt rs f - elt t.row f
  zero : ∀ f, k ≤ f → elt t.row f = 0
  nn : ∀ f, 0 ≤ elt t.row f
  can : ∀ f, 0 < elt t.row f → f < k ∧ payB (fd l.fs f) (bl l.bs i) = true
  need : t.need = (bl l.bs i).amt - sumF (elt t.row) k
theorem TsRow.next {l : Lg} (hl : LgOk l) {i k : Nat} {rs : List Int} {t : TS} (hi : i < l.bs.length) (hk : k < l.fs.length) (ht : TsOk l i k t) (h : TsRow l i k rs t) : TsRow l i (k + 1) rs (t.step l i k) := by
  have hfn := hl.fn
  have hp := pow_bd l.bs.length (by have := hl.bn; omega)
  unfold TS.step
  cases hc : payB (fd l.fs k) (bl l.bs i)
  · simp only [Bool.false_eq_true, if_false]
    refine ⟨h.rs, fun f hf => h.zero f (by omega), h.nn, fun f hf => ⟨by have := (h.can f hf).1; omega, (h.can f hf).2⟩, ?_⟩
    show t.need = _ - (sumF (elt t.row) k + elt t.row k)
    rw [h.zero k (Nat.le_refl _), h.need]; omega
  · simp only [if_true]
    have h0 : 0 ≤ t.n l i k := (ht.n_nn hl hi hk (2 ^ l.bs.length) (Nat.le_refl _)).1
    generalize t.n l i k = n at *
    have er := elt_set (l := t.row) (k := k) (v := n) (by rw [ht.len]; omega)
    have es := elt_set (l := t.rs) (k := k) (v := t.rs.getD k 0 - n) (by rw [ht.rs.1]; omega)
    have ez := h.zero k (Nat.le_refl _)
    have ek := h.rs k
    have ed : t.rs.getD k 0 = elt t.rs k := rfl
    refine ⟨fun f => ?_, fun f hf => ?_, fun f => ?_, fun f hf => ?_, ?_⟩
    · show elt (t.rs.set k _) f = _ - elt (t.row.set k _) f
      rw [er, es]
      by_cases e : f = k
      · subst e; rw [if_pos rfl, if_pos rfl, ed]; omega
      · rw [if_neg e, if_neg e]; exact h.rs f
    · show elt (t.row.set k _) f = 0
      rw [er, if_neg (by omega)]; exact h.zero f (by omega)
    · show 0 ≤ elt (t.row.set k _) f
      rw [er]; split
      · exact h0
      · exact h.nn f
    · have hf' : 0 < elt (t.row.set k n) f := hf
      rw [er] at hf'
      by_cases e : f = k
      · subst e; exact ⟨by omega, hc⟩
      · rw [if_neg e] at hf'
        exact ⟨by have := (h.can f hf').1; omega, (h.can f hf').2⟩
    · show t.need - n = _ - (sumF (elt (t.row.set k n)) k + elt (t.row.set k n) k)
      rw [sumF_congr (F := elt (t.row.set k n)) (G := elt t.row) (n := k) (fun j hj => by rw [er, if_neg (by omega)]), er, if_pos rfl, h.need]
      omega
theorem tsN_row {l : Lg} (hl : LgOk l) {i : Nat} (hi : i < l.bs.length) {rs : List Int} (hr : RsOk rs) (ho : l.pr.ok i (rF rs)) : ∀ k, k ≤ l.fs.length → TsRow l i k rs (tsN l i rs k)
  | 0, _ => by
    have e : ∀ f, elt z8 f = 0 := fun f => by
      unfold elt z8
      rcases f with _ | _ | _ | _ | _ | _ | _ | _ | f <;> simp
    refine ⟨fun f => ?_, fun f _ => e f, fun f => ?_, fun f hf => ?_, ?_⟩
    · show elt rs f = elt rs f - elt z8 f
      rw [e]; omega
    · show 0 ≤ elt z8 f
      rw [e]; exact Int.le_refl _
    · have : 0 < elt z8 f := hf
      rw [e] at this; exact absurd this (Int.lt_irrefl _)
    · show (bl l.bs i).amt = _ - 0
      omega
  | k + 1, h => (tsN_row hl hi hr ho k (by omega)).next hl hi (by omega) (tsN_ok hl hi hr ho k (by omega))
section
variable {l : Lg} (hl : LgOk l) (hp : prf l = none)
include hl hp
theorem row_all {i : Nat} (hi : i < l.bs.length) : TsRow l i l.fs.length (rsN l i) (tsN l i (rsN l i) l.fs.length) := by
  obtain ⟨h1, h2⟩ := rsN_ok hl hp i (by omega)
  exact tsN_row hl hi h1 h2 l.fs.length (Nat.le_refl _)
theorem row_sum {i : Nat} (hi : i < l.bs.length) : sumF (elt (rowW l i)) l.fs.length = (bl l.bs i).amt := by
  obtain ⟨h1, h2⟩ := rsN_ok hl hp i (by omega)
  have h := (row_all hl hp hi).need
  have h3 := (tsN_ok hl hi h1 h2 l.fs.length (Nat.le_refl _)).inv.done hi
  unfold rowW
  omega
theorem rest_step {i : Nat} (hi : i < l.bs.length) (f : Nat) : elt (rsN l (i + 1)) f = elt (rsN l i) f - elt (rowW l i) f := (row_all hl hp hi).rs f
theorem row_nn {i : Nat} (hi : i < l.bs.length) (f : Nat) : 0 ≤ elt (rowW l i) f := (row_all hl hp hi).nn f
theorem row_can {i : Nat} (hi : i < l.bs.length) {f : Nat} (h : 0 < elt (rowW l i) f) : f < l.fs.length ∧ payB (fd l.fs f) (bl l.bs i) = true := (row_all hl hp hi).can f h
theorem rest_nn (i : Nat) (hi : i ≤ l.bs.length) (f : Nat) (hf : f < 8) : 0 ≤ elt (rsN l i) f := ((rsN_ok hl hp i hi).1.2 f hf).1
end
end Go.Proofs.Ytbbkeakbomngoaa
