/- Contracts of functions that the claim reaches: what each call gives, told in our own logic. Conditions: those of each theorem. -/
import Derived.Test.YthjbfdfhblloiaaQ44
import Derived.Test.YthjbfdfhblloiaaW6a
set_option linter.all false
set_option linter.unusedSimpArgs false
set_option linter.unusedVariables false
namespace Go.Proofs.Ythjbfdfhblloiaa
open Go.Av
set_option maxRecDepth 20000
/-! ### The ends of a load are reached, plain -/
def mst (t : Tw) (s : Nat → Int) (g : Gp) (q st : Int) : Nat → Int
  | 0 => g.alo
  | k + 1 => if plc t s g (g.alo + (k : Nat)) st = q then g.alo + (k : Nat) else mst t s g q st k
def lst_ (t : Tw) (s : Nat → Int) (g : Gp) (q st : Int) : Nat → Int
  | 0 => g.alo
  | k + 1 => if plc t s g (g.alo + (k : Nat)) st = q then lst_ t s g q st k else g.alo + (k : Nat)
theorem mst_bd {t : Tw} {s : Nat → Int} {g : Gp} {q st : Int} : ∀ k, g.alo ≤ mst t s g q st k ∧ (mst t s g q st k < g.alo + (k : Nat) ∨ k = 0 ∧ mst t s g q st k = g.alo)
  | 0 => ⟨Int.le_refl _, .inr ⟨rfl, rfl⟩⟩
  | k + 1 => by
    have ih := mst_bd (t := t) (s := s) (g := g) (q := q) (st := st) k
    have e : mst t s g q st (k + 1) = if plc t s g (g.alo + (k : Nat)) st = q then g.alo + (k : Nat) else mst t s g q st k := rfl
    rw [e]
    split
    · exact ⟨by omega, .inl (by omega)⟩
    · exact ⟨ih.1, .inl (by rcases ih.2 with h | ⟨_, h⟩ <;> omega)⟩
theorem lst_bd {t : Tw} {s : Nat → Int} {g : Gp} {q st : Int} : ∀ k, g.alo ≤ lst_ t s g q st k ∧ (lst_ t s g q st k < g.alo + (k : Nat) ∨ k = 0 ∧ lst_ t s g q st k = g.alo)
  | 0 => ⟨Int.le_refl _, .inr ⟨rfl, rfl⟩⟩
  | k + 1 => by
    have ih := lst_bd (t := t) (s := s) (g := g) (q := q) (st := st) k
    have e : lst_ t s g q st (k + 1) = if plc t s g (g.alo + (k : Nat)) st = q then lst_ t s g q st k else g.alo + (k : Nat) := rfl
    rw [e]
    split
    · exact ⟨ih.1, .inl (by rcases ih.2 with h | ⟨_, h⟩ <;> omega)⟩
    · exact ⟨by omega, .inl (by omega)⟩
theorem mst_at {t : Tw} {s : Nat → Int} {g : Gp} {q st : Int} : ∀ k, (∃ j : Nat, j < k ∧ plc t s g (g.alo + (j : Nat)) st = q) → plc t s g (mst t s g q st k) st = q
  | 0, ⟨_, h, _⟩ => absurd h (Nat.not_lt_zero _)
  | k + 1, ⟨j, h1, h2⟩ => by
    have e : mst t s g q st (k + 1) = if plc t s g (g.alo + (k : Nat)) st = q then g.alo + (k : Nat) else mst t s g q st k := rfl
    rw [e]
    split
    · assumption
    · rename_i hn
      refine mst_at k ⟨j, ?_, h2⟩
      by_cases e : j = k
      · rw [e] at h2; exact absurd h2 hn
      · omega
theorem lst_at {t : Tw} {s : Nat → Int} {g : Gp} {q st : Int} : ∀ k, (∃ j : Nat, j < k ∧ ¬ plc t s g (g.alo + (j : Nat)) st = q) → ¬ plc t s g (lst_ t s g q st k) st = q
  | 0, ⟨_, h, _⟩ => absurd h (Nat.not_lt_zero _)
  | k + 1, ⟨j, h1, h2⟩ => by
    have e : lst_ t s g q st (k + 1) = if plc t s g (g.alo + (k : Nat)) st = q then lst_ t s g q st k else g.alo + (k : Nat) := rfl
    rw [e]
    split
    · rename_i hn
      refine lst_at k ⟨j, ?_, h2⟩
      by_cases e : j = k
      · rw [e] at h2; exact absurd hn h2
      · omega
    · assumption
def gN (g : Gp) : Nat := (g.ahi - g.alo + 1).toNat
def mL (t : Tw) (s : Nat → Int) (q st : Int) (i : Nat) : List Cm := (List.range i).map fun j => ⟨mst t s (gp t.gs j) q st (gN (gp t.gs j)), (gp t.gs j).hi⟩
def lL (t : Tw) (s : Nat → Int) (q st : Int) (i : Nat) : List Cm := (List.range i).map fun j => ⟨lst_ t s (gp t.gs j) q st (gN (gp t.gs j)), (gp t.gs j).lo⟩
theorem mL_len (t : Tw) (s : Nat → Int) (q st : Int) (i : Nat) : (mL t s q st i).length = i := by simp [mL]
theorem lL_len (t : Tw) (s : Nat → Int) (q st : Int) (i : Nat) : (lL t s q st i).length = i := by simp [lL]
theorem mL_next (t : Tw) (s : Nat → Int) (q st : Int) (i : Nat) : mL t s q st (i + 1) = mL t s q st i ++ [⟨mst t s (gp t.gs i) q st (gN (gp t.gs i)), (gp t.gs i).hi⟩] := by
  unfold mL; rw [List.range_succ, List.map_append]; rfl
theorem lL_next (t : Tw) (s : Nat → Int) (q st : Int) (i : Nat) : lL t s q st (i + 1) = lL t s q st i ++ [⟨lst_ t s (gp t.gs i) q st (gN (gp t.gs i)), (gp t.gs i).lo⟩] := by
  unfold lL; rw [List.range_succ, List.map_append]; rfl
theorem mL_cm {t : Tw} {s : Nat → Int} {q st : Int} {n i : Nat} (h : i < n) : cm (mL t s q st n) i = ⟨mst t s (gp t.gs i) q st (gN (gp t.gs i)), (gp t.gs i).hi⟩ := by
  unfold cm mL; rw [List.getD_eq_getElem?_getD, List.getElem?_map, List.getElem?_range h]; rfl
theorem lL_cm {t : Tw} {s : Nat → Int} {q st : Int} {n i : Nat} (h : i < n) : cm (lL t s q st n) i = ⟨lst_ t s (gp t.gs i) q st (gN (gp t.gs i)), (gp t.gs i).lo⟩ := by
  unfold cm lL; rw [List.getD_eq_getElem?_getD, List.getElem?_map, List.getElem?_range h]; rfl
theorem sumF_congr {F G : Nat → Int} : ∀ {n : Nat}, (∀ i, i < n → F i = G i) → sumF F n = sumF G n
  | 0, _ => rfl
  | n + 1, h => by show sumF F n + F n = sumF G n + G n; rw [sumF_congr (fun i hi => h i (by omega)), h n (by omega)]
theorem held_most {t : Tw} (hT : TwOk t) (s : Nat → Int) (q st : Int) : sumF (hdF t s (mL t s q st t.gs.length) st q) t.gs.length = ldHi t s q st := by
  refine sumF_congr fun i hi => ?_
  have ha := (hT.g i hi).at_
  unfold hdF hiF
  rw [mL_cm hi]
  by_cases e : someB t s (gp t.gs i) q st = true
  · rw [if_pos e]
    obtain ⟨c, h1, h2, h3⟩ := someB_iff.1 e
    rw [if_pos (mst_at _ ⟨(c - (gp t.gs i).alo).toNat, by unfold gN; omega, by rw [show (gp t.gs i).alo + (((c - (gp t.gs i).alo).toNat : Nat) : Int) = c by omega]; exact h3⟩)]
  · rw [if_neg e, if_neg]
    intro h
    refine e (someB_iff.2 ⟨_, (mst_bd _).1, ?_, h⟩)
    have := (mst_bd (t := t) (s := s) (g := gp t.gs i) (q := q) (st := st) (gN (gp t.gs i))).2
    unfold gN at *
    show mst t s (gp t.gs i) q st _ ≤ _
    omega
theorem held_least {t : Tw} (hT : TwOk t) (s : Nat → Int) (q st : Int) : sumF (hdF t s (lL t s q st t.gs.length) st q) t.gs.length = ldLo t s q st := by
  refine sumF_congr fun i hi => ?_
  have ha := (hT.g i hi).at_
  unfold hdF loF
  rw [lL_cm hi]
  by_cases e : allB t s (gp t.gs i) q st = true
  · rw [if_pos e, if_pos]
    refine allB_iff.1 e _ (lst_bd _).1 ?_
    have := (lst_bd (t := t) (s := s) (g := gp t.gs i) (q := q) (st := st) (gN (gp t.gs i))).2
    unfold gN at *
    show lst_ t s (gp t.gs i) q st _ ≤ _
    omega
  · rw [if_neg e, if_neg]
    refine lst_at _ ?_
    refine Classical.byContradiction fun hc => e (allB_iff.2 fun c h1 h2 => Classical.byContradiction fun h3 => hc ⟨(c - (gp t.gs i).alo).toNat, by unfold gN; omega, ?_⟩)
    rw [show (gp t.gs i).alo + (((c - (gp t.gs i).alo).toNat : Nat) : Int) = c by omega]; exact h3
end Go.Proofs.Ythjbfdfhblloiaa
