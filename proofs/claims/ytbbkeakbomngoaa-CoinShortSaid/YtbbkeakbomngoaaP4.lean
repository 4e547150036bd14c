/- Contracts of functions that the claim reaches: what each call gives, told in our own logic. Conditions: those of each theorem. -/
import Derived.Test.YtbbkeakbomngoaaG9
import Derived.Test.YtbbkeakbomngoaaG11
import Derived.Test.YtbbkeakbomngoaaP2
set_option linter.all false
set_option linter.unusedSimpArgs false
set_option linter.unusedVariables false
namespace Go.Proofs.Ytbbkeakbomngoaa
open Go.Av
set_option maxRecDepth 20000
/-! ### The first set that is short, as a list -/
def bitsS (l : List Int) : Nat → Int
  | 0 => 0
  | i + 1 => bitsS l i + shl .i64 1 (elt l i)
def bitsT (l : List Int) : Int := bitsS l l.length
def catK (g : Nat → List (List Int)) (a : Nat) : Nat → List (List Int)
  | 0 => []
  | k + 1 => catK g a k ++ (g (a + k + 1)).map (((a + k : Nat) : Int) :: ·)
def setsF (n : Nat) : Nat → Nat → List (List Int)
  | 0, _ => [[]]
  | m + 1, a => catK (setsF n m) a (n - a)
def noLg : Lg := ⟨[], []⟩
theorem bitsL_any (l l' : Lg) (s : Int) : ∀ i, bitsL l s i = bitsL l' s i
  | 0 => rfl
  | i + 1 => by unfold bitsL; rw [bitsL_any l l' s i]
def setOkB (B m : Nat) (r : List Int) : Bool := decide (r.length = m) && (decide (bitsL noLg (bitsT r) B = r) && (List.range m).all fun i => decide (0 ≤ elt r i ∧ elt r i < B ∧ (0 < i → elt r (i - 1) < elt r i)))
theorem sets_walk : ∀ B, B < 9 → ∀ m, m < 9 → (setsF B m 0).map bitsT = walkL B m 0 0 := by decide +kernel
theorem sets_okB : ∀ B, B < 9 → ∀ m, m < 9 → (setsF B m 0).all (setOkB B m) = true := by decide +kernel
theorem sets_many : ∀ B, B < 9 → ∀ m, m < 9 → ∀ a, a < 10 → (setsF B m a).length ≤ 256 := by decide +kernel
structure SetOk (B m : Nat) (r : List Int) : Prop where
  len : r.length = m
  bits : ∀ l : Lg, bitsL l (bitsT r) B = r
  rng : ∀ i, i < m → 0 ≤ elt r i ∧ elt r i < B
  up : ∀ i, i < m → 0 < i → elt r (i - 1) < elt r i
theorem sets_ok {B m : Nat} (hB : B ≤ 8) (hm : m ≤ 8) {r : List Int} (hr : r ∈ setsF B m 0) : SetOk B m r := by
  have h := List.all_eq_true.1 (sets_okB B (by omega) m (by omega)) r hr
  unfold setOkB at h
  simp only [Bool.and_eq_true, decide_eq_true_eq, List.all_eq_true, List.mem_range] at h
  obtain ⟨h1, h2, h3⟩ := h
  exact ⟨h1, fun l => by rw [bitsL_any l noLg]; exact h2, fun i hi => ⟨(h3 i hi).1, (h3 i hi).2.1⟩, fun i hi => (h3 i hi).2.2⟩
theorem wkN_none {g : Nat → List Int} {a : Nat} {p : Int → Bool} : ∀ {k : Nat}, (wkN g a k).find? p = none → ∀ i, i < k → (g (a + i)).find? p = none
  | 0, _, i, hi => absurd hi (Nat.not_lt_zero _)
  | k + 1, h, i, hi => by
    have h' : (wkN g a k ++ g (a + k)).find? p = none := h
    rw [List.find?_append] at h'
    have h1 : (wkN g a k).find? p = none := by
      cases e : (wkN g a k).find? p
      · rfl
      · rw [e] at h'; cases h'
    rw [h1] at h'
    by_cases e : i = k
    · rw [e]; simpa using h'
    · exact wkN_none h1 i (by omega)
theorem wkN_some {g : Nat → List Int} {a : Nat} {p : Int → Bool} {x : Int} : ∀ {k : Nat}, (wkN g a k).find? p = some x → ∃ i, i < k ∧ (g (a + i)).find? p = some x ∧ ∀ j, j < i → (g (a + j)).find? p = none
  | 0, h => by cases h
  | k + 1, h => by
    have h' : (wkN g a k ++ g (a + k)).find? p = some x := h
    rw [List.find?_append] at h'
    cases e : (wkN g a k).find? p with
    | none =>
      rw [e] at h'
      exact ⟨k, by omega, by simpa using h', fun j hj => wkN_none e j hj⟩
    | some y =>
      rw [e] at h'
      have : y = x := by simpa using h'
      subst this
      obtain ⟨i, h1, h2, h3⟩ := wkN_some e
      exact ⟨i, by omega, h2, h3⟩
structure ShSet (l : Lg) (s : Int) (m j : Nat) : Prop where
  m1 : 1 ≤ m
  m2 : m ≤ l.bs.length
  jl : j < (setsF l.bs.length m 0).length
  at_ : lel (setsF l.bs.length m 0) j = bitsL l s l.bs.length
  bits : bitsT (bitsL l s l.bs.length) = s
  ok : SetOk l.bs.length m (bitsL l s l.bs.length)
  neg : slackB l (amts l.fs) s < 0
  nn : ∀ m' i, 1 ≤ m' → m' ≤ m → i < (setsF l.bs.length m' 0).length → (m' = m → i < j) → 0 ≤ slackB l (amts l.fs) (bitsT (lel (setsF l.bs.length m' 0) i))
theorem setsL_eq {l : Lg} (hB : l.bs.length ≤ 8) {m : Nat} (hm : m ≤ 8) : setsL l m = (setsF l.bs.length m 0).map bitsT := (sets_walk _ (by omega) m (by omega)).symm
theorem short_none {l : Lg} (hB : l.bs.length ≤ 8) {m : Nat} (hm : m ≤ 8) (h : (setsL l m).find? (shortB l) = none) {i : Nat} (hi : i < (setsF l.bs.length m 0).length) : 0 ≤ slackB l (amts l.fs) (bitsT (lel (setsF l.bs.length m 0) i)) := by
  rw [setsL_eq hB hm, List.find?_map] at h
  have h' : (setsF l.bs.length m 0).find? (shortB l ∘ bitsT) = none := by
    cases e : (setsF l.bs.length m 0).find? (shortB l ∘ bitsT)
    · rfl
    · rw [e] at h; cases h
  have := List.find?_eq_none.1 h' _ (lel_mem hi)
  simp only [Function.comp, shortB, decide_eq_true_eq] at this
  omega
theorem prf_all {l : Lg} (hB : l.bs.length ≤ 8) (h : prf l = none) : ∀ m i, 1 ≤ m → m ≤ l.bs.length → i < (setsF l.bs.length m 0).length → 0 ≤ slackB l (amts l.fs) (bitsT (lel (setsF l.bs.length m 0) i)) := fun m i h1 h2 hi => by
  refine short_none hB (by omega) ?_ hi
  have := wkN_none h (m - 1) (by omega)
  rw [show 1 + (m - 1) = m by omega] at this
  exact this
theorem short_set {l : Lg} (hB : l.bs.length ≤ 8) {s : Int} (h : prf l = some s) : ∃ m j, ShSet l s m j := by
  obtain ⟨i, h1, h2, h3⟩ := wkN_some h
  rw [setsL_eq hB (by omega), List.find?_map] at h2
  cases e : (setsF l.bs.length (1 + i) 0).find? (shortB l ∘ bitsT) with
  | none => rw [e] at h2; cases h2
  | some r =>
    rw [e] at h2
    have hrs : bitsT r = s := by simpa using h2
    obtain ⟨hr, xs, ys, hsp, hno⟩ := List.find?_eq_some_iff_append.1 e
    have hmem : r ∈ setsF l.bs.length (1 + i) 0 := by rw [hsp]; simp
    have hok := sets_ok hB (by omega) hmem
    have hb := hok.bits l
    rw [hrs] at hb
    refine ⟨1 + i, xs.length, by omega, by omega, by rw [hsp]; simp, ?_, by rw [hb]; exact hrs, by rw [hb]; exact hok, ?_, fun m' i' q1 q2 q3 q4 => ?_⟩
    · rw [hb, hsp]; simp [lel, List.getD_eq_getElem?_getD]
    · have : shortB l (bitsT r) = true := hr
      rw [hrs] at this
      exact of_decide_eq_true this
    · by_cases c : m' = 1 + i
      · have q5 := q4 c
        subst c
        have hm : lel (setsF l.bs.length (1 + i) 0) i' ∈ xs := by
          rw [hsp]; unfold lel
          rw [List.getD_eq_getElem?_getD, List.getElem?_append_left q5, List.getElem?_eq_getElem q5]
          exact List.getElem_mem _
        have := hno _ hm
        simp only [Function.comp, shortB, Bool.not_eq_true', decide_eq_false_iff_not] at this
        omega
      · refine short_none hB (by omega) ?_ q3
        have := h3 (m' - 1) (by omega)
        rw [show 1 + (m' - 1) = m' by omega] at this
        exact this
end Go.Proofs.Ytbbkeakbomngoaa
