/- Contracts of functions that the claim reaches: what each call gives, told in our own logic. Conditions: those of each theorem. -/
import Derived.Test.YtbbkeakbomngoaaP3
import Derived.Test.YtbbkeakbomngoaaP5
import Derived.Test.YtbbkeakbomngoaaG11
set_option linter.all false
set_option linter.unusedSimpArgs false
set_option linter.unusedVariables false
namespace Go.Proofs.Ytbbkeakbomngoaa
open Go.Av
set_option maxRecDepth 20000
/-! ### All traces, in lexicographic order: what the recursion computes -/
def catN {α : Type} (g : Nat → List α) : Nat → List α
  | 0 => []
  | k + 1 => catN g k ++ g k
def mostI (l : Lg) (i f : Nat) (left : List Int) (need : Int) : Int := if payB (fd l.fs f) (bl l.bs i) then min need (elt left f) else 0
def nextA (l : Lg) (i : Nat) : Int := if i < l.bs.length then (bl l.bs i).amt else 0
def trN (l : Lg) : Nat → List (List Int) → List Int → List Int → Int → List (List (List Int))
  | 0, _, _, _, _ => []
  | k + 1, t, row, left, need =>
    if t.length = l.bs.length then [t] else
    if row.length = l.fs.length then (if 0 < need then [] else trN l k (t ++ [row]) [] left (nextA l (t.length + 1)))
    else catN (fun n => trN l k t (row ++ [((n : Nat) : Int)]) (left.set row.length (elt left row.length - ((n : Nat) : Int))) (need - ((n : Nat) : Int))) ((mostI l t.length row.length left need).toNat + 1)
theorem catN_len {α : Type} {g : Nat → List α} {B : Nat} : ∀ k, (∀ n, n < k → (g n).length ≤ B) → (catN g k).length ≤ k * B
  | 0, _ => Nat.zero_le _
  | k + 1, h => by
    have h1 := catN_len (g := g) (B := B) k (fun n hn => h n (by omega))
    have h2 := h k (by omega)
    show (catN g k ++ g k).length ≤ _
    rw [List.length_append, Nat.succ_mul]
    omega
theorem catN_nil {α : Type} {g : Nat → List α} : ∀ {k : Nat}, (∀ n, n < k → g n = []) → catN g k = []
  | 0, _ => rfl
  | k + 1, h => by
    show catN g k ++ g k = []
    rw [catN_nil (fun n hn => h n (by omega)), h k (by omega)]; rfl
theorem catN_mem {α : Type} {g : Nat → List α} {x : α} : ∀ {k : Nat}, x ∈ catN g k ↔ ∃ n, n < k ∧ x ∈ g n
  | 0 => by simp [catN]
  | k + 1 => by
    show x ∈ catN g k ++ g k ↔ _
    rw [List.mem_append, catN_mem]
    constructor
    · rintro (⟨n, h1, h2⟩ | h)
      · exact ⟨n, by omega, h2⟩
      · exact ⟨k, by omega, h⟩
    · rintro ⟨n, h1, h2⟩
      by_cases e : n = k
      · subst e; exact .inr h2
      · exact .inl ⟨n, by omega, h2⟩
/-- With few coins there are not too many. -/
theorem trN_len {l : Lg} {C : Nat} (hC : ∀ i, i < l.bs.length → (bl l.bs i).amt ≤ C) : ∀ k t row left need, need ≤ (C : Int) → (trN l k t row left need).length ≤ (C + 1) ^ k
  | 0, _, _, _, _, _ => Nat.zero_le _
  | k + 1, t, row, left, need, hn => by
    have hp : 1 ≤ (C + 1) ^ k := Nat.pos_of_ne_zero (by simp)
    have hs : (C + 1) ^ (k + 1) = (C + 1) * (C + 1) ^ k := by rw [Nat.pow_succ, Nat.mul_comm]
    have hge : (C + 1) ^ k ≤ (C + 1) ^ (k + 1) := by rw [hs]; exact Nat.le_mul_of_pos_left _ (by omega)
    unfold trN
    split
    · simp only [List.length_singleton]; omega
    · split
      · split
        · exact Nat.zero_le _
        · refine Nat.le_trans (trN_len hC k _ _ _ _ ?_) hge
          unfold nextA
          split
          · exact hC _ (by assumption)
          · omega
      · have hm : mostI l t.length row.length left need ≤ C := by
          unfold mostI; split <;> omega
        refine Nat.le_trans (catN_len _ fun n _ => trN_len hC k _ _ _ _ (by omega)) ?_
        rw [hs]
        exact Nat.mul_le_mul_right _ (by omega)
end Go.Proofs.Ytbbkeakbomngoaa
