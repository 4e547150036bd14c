/- Contracts of functions that the claim reaches: what each call gives, told in our own logic. Conditions: those of each theorem. -/
import Derived.Test.YtbbkeakbomngoaaP7
import Derived.Test.YtbbkeakbomngoaaP6
set_option linter.all false
set_option linter.unusedSimpArgs false
set_option linter.unusedVariables false
namespace Go.Proofs.Ytbbkeakbomngoaa
open Go.Av
set_option maxRecDepth 20000
/-! ### A table is one of all traces just if it is valid -/
structure RowOk (l : Lg) (i : Nat) (r : List Int) : Prop where
  len : r.length = l.fs.length
  nn : ∀ f, 0 ≤ elt r f
  can : ∀ f, 0 < elt r f → payB (fd l.fs f) (bl l.bs i) = true
  sum : sumF (elt r) l.fs.length = (bl l.bs i).amt
structure Valid (l : Lg) (t : List (List Int)) : Prop where
  len : t.length = l.bs.length
  row : ∀ i, i < l.bs.length → RowOk l i (lel t i)
  col : ∀ f, f < l.fs.length → sumF (fun i => elt (lel t i) f) l.bs.length ≤ (fd l.fs f).amt
theorem elt_out {l : List Int} {i : Nat} (h : l.length ≤ i) : elt l i = 0 := by
  unfold elt; rw [List.getD_eq_getElem?_getD, List.getElem?_eq_none h]; rfl
theorem elt_nil (i : Nat) : elt [] i = 0 := elt_out (Nat.zero_le _)
theorem elt_snoc (row : List Int) (n : Int) (f : Nat) : elt (row ++ [n]) f = if f = row.length then n else elt row f := by
  by_cases h : f < row.length
  · rw [elt_app h, if_neg (by omega)]
  · by_cases e : f = row.length
    · rw [if_pos e, e, elt_last]
    · rw [if_neg e, elt_out (by rw [List.length_append, List.length_singleton]; omega), elt_out (by omega)]
theorem lel_app {t : List (List Int)} {r : List Int} {i : Nat} (h : i < t.length) : lel (t ++ [r]) i = lel t i := by
  unfold lel; simp only [List.getD_eq_getElem?_getD]; rw [List.getElem?_append_left h]
theorem lel_last {t : List (List Int)} {r : List Int} : lel (t ++ [r]) t.length = r := by
  unfold lel; simp only [List.getD_eq_getElem?_getD]; simp
structure Cons (l : Lg) (t : List (List Int)) (row left : List Int) (need : Int) : Prop where
  tl : t.length ≤ l.bs.length
  rows : ∀ i, i < t.length → RowOk l i (lel t i)
  rl : row.length ≤ l.fs.length
  rnn : ∀ f, 0 ≤ elt row f
  rcan : ∀ f, 0 < elt row f → payB (fd l.fs f) (bl l.bs t.length) = true
  fin : t.length = l.bs.length → row = []
  eqn : t.length < l.bs.length → need = (bl l.bs t.length).amt - sumF (elt row) l.fs.length
  nd : 0 ≤ need
  ll : left.length = l.fs.length
  eql : ∀ f, f < l.fs.length → elt left f = (fd l.fs f).amt - sumF (fun i => elt (lel t i) f) t.length - elt row f
  lnn : ∀ f, f < l.fs.length → 0 ≤ elt left f
theorem nextA_nn {l : Lg} (hl : LgOk l) (i : Nat) : 0 ≤ nextA l i := by
  unfold nextA
  split
  · rename_i h; exact (hl.b _ (bl_mem h)).amt.1
  · omega
theorem Cons.bill {l : Lg} (hl : LgOk l) {t : List (List Int)} {row left : List Int} {need : Int} (h : Cons l t row left need) (h1 : t.length < l.bs.length) (h2 : row.length = l.fs.length) (h3 : ¬ 0 < need) : Cons l (t ++ [row]) [] left (nextA l (t.length + 1)) := by
  have hn := h.eqn h1
  have hnd := h.nd
  have hsum : ∀ f, sumF (fun i => elt (lel (t ++ [row]) i) f) (t.length + 1) = sumF (fun i => elt (lel t i) f) t.length + elt row f := fun f => by
    show sumF (fun i => elt (lel (t ++ [row]) i) f) t.length + elt (lel (t ++ [row]) t.length) f = _
    rw [lel_last, sumF_congr (G := fun i => elt (lel t i) f) fun i hi => by rw [lel_app hi]]
  refine ⟨by rw [List.length_append, List.length_singleton]; omega, fun i hi => ?_, Nat.zero_le _, fun f => by rw [elt_out (Nat.zero_le _)]; omega, fun f hf => by rw [elt_out (Nat.zero_le _)] at hf; omega, fun _ => rfl, fun hh => ?_, nextA_nn hl _, h.ll, fun f hf => ?_, h.lnn⟩
  · rw [List.length_append, List.length_singleton] at hi
    by_cases e : i < t.length
    · rw [lel_app e]; exact h.rows i e
    · obtain rfl : i = t.length := by omega
      rw [lel_last]
      exact ⟨h2, h.rnn, h.rcan, by omega⟩
  · rw [List.length_append, List.length_singleton] at hh ⊢
    unfold nextA
    rw [if_pos hh, sumF_zero (fun i _ => elt_out (Nat.zero_le _))]; omega
  · rw [List.length_append, List.length_singleton, hsum, elt_nil, h.eql f hf]; omega
theorem Cons.fund {l : Lg} {t : List (List Int)} {row left : List Int} {need : Int} (h : Cons l t row left need) (h1 : t.length < l.bs.length) (h2 : row.length < l.fs.length) {n : Nat} (hn : n < (mostI l t.length row.length left need).toNat + 1) :
    Cons l t (row ++ [((n : Nat) : Int)]) (left.set row.length (elt left row.length - ((n : Nat) : Int))) (need - ((n : Nat) : Int)) := by
  have hnd := h.nd
  have hlf := h.lnn _ h2
  have hm : mostI l t.length row.length left need = if payB (fd l.fs row.length) (bl l.bs t.length) then min need (elt left row.length) else 0 := rfl
  have hb : ((n : Nat) : Int) ≤ need ∧ ((n : Nat) : Int) ≤ elt left row.length ∧ (0 < n → payB (fd l.fs row.length) (bl l.bs t.length) = true) := by
    cases hp : payB (fd l.fs row.length) (bl l.bs t.length)
    · rw [hp] at hm
      have hm' : mostI l t.length row.length left need = 0 := hm
      refine ⟨by omega, by omega, fun h => by omega⟩
    · rw [hp] at hm
      have hm' : mostI l t.length row.length left need = min need (elt left row.length) := hm
      refine ⟨by omega, by omega, fun _ => rfl⟩
  refine ⟨h.tl, h.rows, by rw [List.length_append, List.length_singleton]; omega, fun f => ?_, fun f hf => ?_, fun e => by omega, fun _ => ?_, by omega, by rw [List.length_set]; exact h.ll, fun f hf => ?_, fun f hf => ?_⟩
  · rw [elt_snoc]; split
    · omega
    · exact h.rnn f
  · rw [elt_snoc] at hf
    split at hf
    · rename_i e; rw [e]; exact hb.2.2 (by omega)
    · exact h.rcan f hf
  · have h3 := sumF_one (F := elt (row ++ [((n : Nat) : Int)])) (G := elt row) (k := row.length) (n := l.fs.length) h2 (fun i hi hik => by rw [elt_snoc, if_neg hik])
    rw [elt_last, elt_out (Nat.le_refl _)] at h3
    rw [h3, h.eqn h1]; omega
  · rw [elt_set (by rw [h.ll]; exact h2), elt_snoc]
    have := h.eql f hf
    by_cases e : f = row.length
    · rw [if_pos e, if_pos e, ← e]
      have h0 : elt row f = 0 := elt_out (by omega)
      omega
    · rw [if_neg e, if_neg e]; exact this
  · rw [elt_set (by rw [h.ll]; exact h2)]
    split
    · omega
    · exact h.lnn f hf
end Go.Proofs.Ytbbkeakbomngoaa
