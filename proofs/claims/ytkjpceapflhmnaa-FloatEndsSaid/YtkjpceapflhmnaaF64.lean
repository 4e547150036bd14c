/- Contracts of functions that the claim reaches: what each call gives, told in our own logic. Conditions: those of each theorem. -/
import Derived.Test.YtkjpceapflhmnaaF50
import Derived.Test.YtkjpceapflhmnaaF61
set_option linter.all false
set_option linter.unusedSimpArgs false
set_option linter.unusedVariables false
namespace Go.Proofs.Ytkjpceapflhmnaa
open Go.Av
/-! ### The plain law of all truths -/
theorem mem_accN {α : Type} {g : Nat → List α} {x : α} : ∀ {n : Nat}, x ∈ accN g n ↔ ∃ i, i < n ∧ x ∈ g i
  | 0 => ⟨fun h => (by cases h), fun ⟨i, h, _⟩ => absurd h (Nat.not_lt_zero _)⟩
  | n + 1 => by
    show x ∈ accN g n ++ g n ↔ _
    rw [List.mem_append, mem_accN]
    constructor
    · rintro (⟨i, h1, h2⟩ | h)
      · exact ⟨i, by omega, h2⟩
      · exact ⟨n, by omega, h⟩
    · rintro ⟨i, h1, h2⟩
      by_cases e : i = n
      · exact .inr (e ▸ h2)
      · exact .inl ⟨i, by omega, h2⟩
theorem TrIn.cons {x : Ld} {l : List Ld} {k t : Int} {ks ts : List Int} (h : TrIn l ks ts) (hk : x.lo ≤ k ∧ k ≤ x.hi) (ht : x.tlo ≤ t ∧ t ≤ x.thi) : TrIn (x :: l) (k :: ks) (t :: ts) := by
  refine ⟨by simp [h.kl], by simp [h.tl], fun i hi => ?_, fun i hi => ?_⟩
  · cases i with
    | zero => exact hk
    | succ i => exact h.k i (by simp at hi; omega)
  · cases i with
    | zero => exact ht
    | succ i => exact h.t i (by simp at hi; omega)
theorem mem_trs : ∀ {l : List Ld} {ks ts : List Int} {p : List Int × List Int}, p ∈ trs l ks ts → ∃ ks' ts', p = (ks ++ ks', ts ++ ts') ∧ TrIn l ks' ts'
  | [], ks, ts, p, h => by
    have : p = (ks, ts) := List.mem_singleton.1 h
    exact ⟨[], [], by rw [List.append_nil, List.append_nil]; exact this, ⟨rfl, rfl, fun i hi => absurd hi (Nat.not_lt_zero _), fun i hi => absurd hi (Nat.not_lt_zero _)⟩⟩
  | x :: l, ks, ts, p, h => by
    obtain ⟨i, hi, h⟩ := mem_accN.1 (show p ∈ accN (fun i => accN (fun j => trs l (ks ++ [x.lo + ((i : Nat) : Int)]) (ts ++ [x.tlo + ((j : Nat) : Int)])) (x.thi + 1 - x.tlo).toNat) (x.hi + 1 - x.lo).toNat from h)
    obtain ⟨j, hj, h⟩ := mem_accN.1 h
    obtain ⟨ks', ts', e, h⟩ := mem_trs h
    refine ⟨(x.lo + ((i : Nat) : Int)) :: ks', (x.tlo + ((j : Nat) : Int)) :: ts', by rw [e]; simp, h.cons (by omega) (by omega)⟩
theorem trs_mem : ∀ {l : List Ld} {ks ts : List Int} (g q : Ld → Int), (∀ x ∈ l, (x.lo ≤ g x ∧ g x ≤ x.hi) ∧ x.tlo ≤ q x ∧ q x ≤ x.thi) → (ks ++ l.map g, ts ++ l.map q) ∈ trs l ks ts
  | [], ks, ts, g, q, h => by simp [trs]
  | x :: l, ks, ts, g, q, h => by
    obtain ⟨h1, h2⟩ := h x (List.mem_cons_self ..)
    refine mem_accN.2 ⟨(g x - x.lo).toNat, by omega, mem_accN.2 ⟨(q x - x.tlo).toNat, by omega, ?_⟩⟩
    have := trs_mem (l := l) (ks := ks ++ [x.lo + (((g x - x.lo).toNat : Nat) : Int)]) (ts := ts ++ [x.tlo + (((q x - x.tlo).toNat : Nat) : Int)]) g q (fun y hy => h y (List.mem_cons_of_mem _ hy))
    have e1 : x.lo + (((g x - x.lo).toNat : Nat) : Int) = g x := by omega
    have e2 : x.tlo + (((q x - x.tlo).toNat : Nat) : Int) = q x := by omega
    rw [e1, e2] at this
    rw [e1, e2]
    simpa using this
def allT (f : Fl) : List (List Int × List Int) := trs f.loads [] []
def tk (A : List (List Int × List Int)) (i : Nat) : List Int × List Int := A.getD i ([], [])
theorem tk_mem {A : List (List Int × List Int)} {i : Nat} (h : i < A.length) : tk A i ∈ A := by
  unfold tk
  rw [List.getD_eq_getElem?_getD, List.getElem?_eq_getElem h]
  exact List.getElem_mem h
theorem mem_tk {A : List (List Int × List Int)} {p : List Int × List Int} (h : p ∈ A) : ∃ i, i < A.length ∧ tk A i = p := by
  obtain ⟨i, hi, rfl⟩ := List.mem_iff_getElem.1 h
  exact ⟨i, hi, by unfold tk; rw [List.getD_eq_getElem?_getD, List.getElem?_eq_getElem hi]; rfl⟩
theorem all_in {f : Fl} {p : List Int × List Int} (h : p ∈ allT f) : TrIn f.loads p.1 p.2 := by
  obtain ⟨ks, ts, rfl, h2⟩ := mem_trs h
  exact h2
/-- The least and the greatest of the first numbers. -/
def spn (g : Nat → Int) : Nat → Int × Int
  | 0 => (0, 0)
  | i + 1 => if 0 < i then (min (spn g i).1 (g i), max (spn g i).2 (g i)) else (g i, g i)
theorem spn_ok (g : Nat → Int) : ∀ i, 0 < i → (∀ j, j < i → (spn g i).1 ≤ g j ∧ g j ≤ (spn g i).2) ∧ (∃ j, j < i ∧ (spn g i).1 = g j) ∧ ∃ j, j < i ∧ (spn g i).2 = g j
  | 0, h => absurd h (Nat.lt_irrefl _)
  | 1, _ => ⟨fun j hj => (by obtain rfl : j = 0 := (by omega); exact ⟨Int.le_refl _, Int.le_refl _⟩), ⟨0, by omega, rfl⟩, ⟨0, by omega, rfl⟩⟩
  | i + 2, _ => by
    obtain ⟨h1, ⟨a, ha, ea⟩, ⟨b, hb, eb⟩⟩ := spn_ok g (i + 1) (by omega)
    have e : spn g (i + 2) = (min (spn g (i + 1)).1 (g (i + 1)), max (spn g (i + 1)).2 (g (i + 1))) := if_pos (by omega)
    rw [e]
    refine ⟨fun j hj => ?_, ?_, ?_⟩
    · by_cases c : j = i + 1
      · subst c; dsimp only; omega
      · have := h1 j (by omega); dsimp only; omega
    · by_cases c : (spn g (i + 1)).1 ≤ g (i + 1)
      · exact ⟨a, by omega, by dsimp only; omega⟩
      · exact ⟨i + 1, by omega, by dsimp only; omega⟩
    · by_cases c : g (i + 1) ≤ (spn g (i + 1)).2
      · exact ⟨b, by omega, by dsimp only; omega⟩
      · exact ⟨i + 1, by omega, by dsimp only; omega⟩
theorem spn_eq {g : Nat → Int} {n a b : Nat} {L H : Int} (h : ∀ j, j < n → L ≤ g j ∧ g j ≤ H) (ha : a < n) (hb : b < n) (ea : g a = L) (eb : g b = H) : spn g n = (L, H) := by
  obtain ⟨h1, ⟨x, hx, ex⟩, ⟨y, hy, ey⟩⟩ := spn_ok g n (by omega)
  have q1 := h1 a ha; have q2 := h1 b hb; have q3 := h x hx; have q4 := h y hy
  exact Prod.ext (by show (spn g n).1 = L; omega) (by show (spn g n).2 = H; omega)
/-- How many of the first ones are so. -/
def cnt (p : Nat → Bool) : Nat → Int
  | 0 => 0
  | i + 1 => if p i then cnt p i + 1 else cnt p i
theorem cnt_bd (p : Nat → Bool) : ∀ i, 0 ≤ cnt p i ∧ cnt p i ≤ i
  | 0 => ⟨Int.le_refl _, Int.le_refl _⟩
  | i + 1 => by
    have := cnt_bd p i
    unfold cnt
    split <;> omega
theorem cnt_all {p : Nat → Bool} : ∀ {i : Nat}, cnt p i = i ↔ ∀ j, j < i → p j = true
  | 0 => ⟨fun _ j hj => absurd hj (Nat.not_lt_zero _), fun _ => rfl⟩
  | i + 1 => by
    have h0 := cnt_bd p i
    have h1 := cnt_all (p := p) (i := i)
    unfold cnt
    constructor
    · intro h j hj
      by_cases c : p i = true
      · by_cases e : j = i
        · exact e ▸ c
        · exact h1.1 (by rw [if_pos c] at h; omega) j (by omega)
      · rw [if_neg c] at h; omega
    · intro h
      rw [if_pos (h i (by omega)), h1.2 (fun j hj => h j (by omega))]
      omega
theorem cnt_none {p : Nat → Bool} : ∀ {i : Nat}, cnt p i = 0 ↔ ∀ j, j < i → p j = false
  | 0 => ⟨fun _ j hj => absurd hj (Nat.not_lt_zero _), fun _ => rfl⟩
  | i + 1 => by
    have h0 := cnt_bd p i
    have h1 := cnt_none (p := p) (i := i)
    unfold cnt
    constructor
    · intro h j hj
      by_cases c : p i = true
      · rw [if_pos c] at h; omega
      · by_cases e : j = i
        · rw [e]; simpa using c
        · exact h1.1 (by rw [if_neg c] at h; omega) j (by omega)
    · intro h
      have := h i (by omega)
      rw [if_neg (by rw [this]; decide)]
      exact h1.2 (fun j hj => h j (by omega))
def toldV (s a : Int) : Int := if s = a then 1 else if s = 0 then 2 else 3
theorem told_eq {p : Nat → Bool} {n a b : Nat} (ha : a < n) (hb : b < n) (h1 : p a = true → ∀ j, j < n → p j = true) (h2 : ∀ j, j < n → p j = true → p b = true) :
    toldV (cnt p n) n = if p a = true then 1 else if p b = true then 3 else 2 := by
  unfold toldV
  by_cases c : p a = true
  · rw [if_pos c, if_pos (cnt_all.2 (h1 c))]
  · have d : ¬ cnt p n = n := fun e => c (cnt_all.1 e a ha)
    rw [if_neg c, if_neg d]
    by_cases e : p b = true
    · rw [if_pos e, if_neg (fun z => by have := cnt_none.1 z b hb; rw [e] at this; cases this)]
    · rw [if_neg e, if_pos (cnt_none.2 fun j hj => by
        cases q : p j with
        | false => rfl
        | true => exact absurd (h2 j hj q) e)]
def upB (f : Fl) (A : List (List Int × List Int)) (i : Nat) : Bool := decide (0 ≤ frT f (tk A i).1 ∧ 0 ≤ reT f (tk A i).1)
def goB (f : Fl) (A : List (List Int × List Int)) (x : Hu) (i : Nat) : Bool := decide (goesT f x (tk A i).1 (tk A i).2)
/-- The law of all truths. -/
structure Ends (f : Fl) (A : List (List Int × List Int)) : Prop where
  tr : ∀ i, i < A.length → TrIn f.loads (tk A i).1 (tk A i).2
  tot : spn (fun i => toT f (tk A i).1) A.length = (wL oneA f 0 0, wH oneA f 0 0)
  fr : spn (fun i => frT f (tk A i).1) A.length = (wL (frontA f) f 0 0, wH (frontA f) f 0 0)
  re : spn (fun i => reT f (tk A i).1) A.length = (wL (rearA f) f 0 0, wH (rearA f) f 0 0)
  ta : spn (fun i => taT f (tk A i).2) A.length = (tl f.high f.loads, th f.high f.loads)
  up : toldV (cnt (upB f A) A.length) A.length = sV f 0 0
  go : ∀ x, toldV (cnt (goB f A x) A.length) A.length = pV f 0 0 x
theorem ends {f : Fl} {n : Int} (hf : FlGood f n) (hfo : FlOk f) : Ends f (allT f) := by
  have hl : ∀ x ∈ f.loads, x.lo ≤ x.hi ∧ x.tlo ≤ x.thi := fun x hx => ⟨(hf.loads x hx).kilos.2.1, (hf.loads x hx).top.2.1⟩
  obtain ⟨a, ha, ea⟩ := mem_tk (A := allT f) (trs_mem (ks := []) (ts := []) (·.lo) (·.tlo) (fun x hx => by have := hl x hx; omega))
  obtain ⟨b, hb, eb⟩ := mem_tk (A := allT f) (trs_mem (ks := []) (ts := []) (·.hi) (·.thi) (fun x hx => by have := hl x hx; omega))
  rw [List.nil_append, List.nil_append] at ea eb
  have ht : ∀ i, i < (allT f).length → TrIn f.loads (tk (allT f) i).1 (tk (allT f) i).2 := fun i hi => all_in (tk_mem hi)
  have hT : ∀ i, i < (allT f).length → TrF f (tk (allT f) i).1 (tk (allT f) i).2 := fun i hi => trF hf (ht i hi)
  refine ⟨ht, spn_eq (fun j hj => (hT j hj).tot) ha hb ?_ ?_, spn_eq (fun j hj => (hT j hj).fr) ha hb ?_ ?_, spn_eq (fun j hj => (hT j hj).re) ha hb ?_ ?_, spn_eq (fun j hj => (hT j hj).ta) ha hb ?_ ?_, ?_, fun x => ?_⟩
  · rw [ea]; exact toT_lo ..
  · rw [eb]; exact toT_hi ..
  · rw [ea]; exact frT_lo ..
  · rw [eb]; exact frT_hi ..
  · rw [ea]; exact reT_lo ..
  · rw [eb]; exact reT_hi ..
  · rw [ea]; exact taT_lo ..
  · rw [eb]; exact taT_hi ..
  · rw [told_eq (a := a) (b := b) ha hb]
    · unfold upB sV
      rw [ea, eb]
      have e3 : sP wL f 0 0 ↔ (0 ≤ wL (frontA f) f 0 0 ∧ 0 ≤ wL (rearA f) f 0 0) := Iff.rfl
      have e4 : sP wH f 0 0 ↔ (0 ≤ wH (frontA f) f 0 0 ∧ 0 ≤ wH (rearA f) f 0 0) := Iff.rfl
      simp only [e3, e4, frT_lo, frT_hi, reT_lo, reT_hi, decide_eq_true_eq]
    · intro h j hj
      unfold upB at h ⊢
      rw [ea] at h
      have q := hT j hj
      have q1 := q.fr; have q2 := q.re
      simp only [frT_lo, reT_lo, decide_eq_true_eq] at h ⊢
      omega
    · intro j hj h
      unfold upB at h ⊢
      rw [eb]
      have q := hT j hj
      have q1 := q.fr; have q2 := q.re
      simp only [frT_hi, reT_hi, decide_eq_true_eq] at h ⊢
      omega
  · rw [told_eq (a := b) (b := a) hb ha, ← pV_goes f x hfo]
    · unfold goB; rw [ea, eb]
    · intro h j hj
      unfold goB at h ⊢
      rw [eb] at h
      have q := hT j hj
      have q1 := q.fr; have q2 := q.re; have q3 := q.tot; have q4 := q.ta
      have h := of_decide_eq_true h
      refine decide_eq_true ?_
      unfold goesT at h ⊢
      simp only [frT_hi, reT_hi, toT_hi, taT_hi] at h ⊢
      generalize x.b * (f.rear - f.front) = qq at *
      by_cases k1 : x.kind = 1
      · rw [if_pos k1] at h ⊢; exact h
      · rw [if_neg k1] at h ⊢
        by_cases k2 : x.kind = 2
        · rw [if_pos k2] at h ⊢; omega
        · rw [if_neg k2] at h ⊢; omega
    · intro j hj h
      unfold goB at h ⊢
      rw [ea]
      have q := hT j hj
      have q1 := q.fr; have q2 := q.re; have q3 := q.tot; have q4 := q.ta
      have h := of_decide_eq_true h
      refine decide_eq_true ?_
      unfold goesT at h ⊢
      simp only [frT_lo, reT_lo, toT_lo, taT_lo] at h ⊢
      generalize x.b * (f.rear - f.front) = qq at *
      by_cases k1 : x.kind = 1
      · rw [if_pos k1] at h ⊢; exact h
      · rw [if_neg k1] at h ⊢
        by_cases k2 : x.kind = 2
        · rw [if_pos k2] at h ⊢; omega
        · rw [if_neg k2] at h ⊢; omega
end Go.Proofs.Ytkjpceapflhmnaa
