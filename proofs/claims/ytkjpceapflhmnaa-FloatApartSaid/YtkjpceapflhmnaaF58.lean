/- Contracts of functions that the claim reaches: what each call gives, told in our own logic. Conditions: those of each theorem. -/
import Derived.Test.YtkjpceapflhmnaaF54
import Derived.Test.YtkjpceapflhmnaaF36
import Derived.Test.YtkjpceapflhmnaaF29
import Derived.Test.YtkjpceapflhmnaaF40a
import Derived.Test.YtkjpceapflhmnaaF13
set_option linter.all false
set_option linter.unusedSimpArgs false
set_option linter.unusedVariables false
namespace Go.Proofs.Ytkjpceapflhmnaa
open Go.Av
/-! ### The plain law of pairs that are too near -/
theorem near_mono {l : List Ld} {ap ap2 : Int} (h : ap ≤ ap2) (i : Nat) : ∀ k, List.Sublist (nearRow l ap i k) (nearRow l ap2 i k)
  | 0 => List.Sublist.refl _
  | k + 1 => by
    show List.Sublist (nearRow l ap i k ++ _) (nearRow l ap2 i k ++ _)
    refine (near_mono h i k).append ?_
    by_cases hn : isNear l ap i k
    · have hn2 : isNear l ap2 i k := ⟨hn.1, Int.lt_of_lt_of_le hn.2 h⟩
      rw [if_pos hn, if_pos hn2]
      exact List.Sublist.refl _
    · rw [if_neg hn]; exact List.nil_sublist _
theorem nearUp_mono {l : List Ld} {ap ap2 : Int} (h : ap ≤ ap2) : ∀ i, List.Sublist (nearUp l ap i) (nearUp l ap2 i)
  | 0 => List.Sublist.refl _
  | i + 1 => by
    show List.Sublist (nearUp l ap i ++ _) (nearUp l ap2 i ++ _)
    refine (nearUp_mono h i).append ?_
    split
    · exact near_mono h i _
    · exact List.nil_sublist _
theorem nearRow_pre {l : List Ld} {ap : Int} {i : Nat} : ∀ d k, List.IsPrefix (nearRow l ap i k) (nearRow l ap i (k + d))
  | 0, _ => List.prefix_rfl
  | d + 1, k => (nearRow_pre d k).trans (List.prefix_append _ _)
theorem nearUp_pre {l : List Ld} {ap : Int} : ∀ d i, List.IsPrefix (nearUp l ap i) (nearUp l ap (i + d))
  | 0, _ => List.prefix_rfl
  | d + 1, i => (nearUp_pre d i).trans (List.prefix_append _ _)
/-- The pairs up to a place. -/
def nearPre (l : List Ld) (ap : Int) (i k : Nat) : List (Nat × Nat) := nearUp l ap i ++ (if (ld l i).kind = 2 then nearRow l ap i k else [])
theorem nearPre_all {l : List Ld} {ap : Int} {i k : Nat} (hi : i < l.length) (hk : k ≤ l.length) : List.IsPrefix (nearPre l ap i k) (nearUp l ap l.length) := by
  have h1 : List.IsPrefix (nearPre l ap i k) (nearUp l ap (i + 1)) := by
    show List.IsPrefix (nearUp l ap i ++ _) (nearUp l ap i ++ _)
    rw [List.prefix_append_right_inj]
    split
    · have := nearRow_pre (l := l) (ap := ap) (i := i) (l.length - k) k
      rwa [Nat.add_sub_cancel' hk] at this
    · exact List.prefix_rfl
  have h2 := nearUp_pre (l := l) (ap := ap) (l.length - (i + 1)) (i + 1)
  rw [Nat.add_sub_cancel' (by omega)] at h2
  exact h1.trans h2
theorem nearPre_hit {l : List Ld} {ap : Int} {i k : Nat} (h2 : (ld l i).kind = 2) (hn : isNear l ap i k) : nearPre l ap i (k + 1) = nearPre l ap i k ++ [(i, k)] := by
  unfold nearPre
  rw [if_pos h2, if_pos h2]
  show nearUp l ap i ++ (nearRow l ap i k ++ _) = _
  rw [if_pos hn, List.append_assoc]
theorem nearPre_miss {l : List Ld} {ap : Int} {i k : Nat} (h : ¬ ((ld l i).kind = 2 ∧ isNear l ap i k)) : nearPre l ap i (k + 1) = nearPre l ap i k := by
  unfold nearPre
  by_cases h2 : (ld l i).kind = 2
  · rw [if_pos h2, if_pos h2]
    show nearUp l ap i ++ (nearRow l ap i k ++ _) = _
    rw [if_neg (fun hn => h ⟨h2, hn⟩), List.append_nil]
  · rw [if_neg h2, if_neg h2]
theorem pre_get {L A : List (Nat × Nat)} {x : Nat × Nat} (h : List.IsPrefix (L ++ [x]) A) : L.length < A.length ∧ A.getD L.length (0, 0) = x := by
  obtain ⟨B, rfl⟩ := h
  constructor
  · simp
  · simp [List.getD_eq_getElem?_getD]
theorem sub_step {A B : List (Nat × Nat)} {i j : Nat} (hi : i < A.length) (h : List.Sublist (A.drop i) (B.drop j)) : j < B.length ∧ (¬ B.getD j (0, 0) = A.getD i (0, 0) → List.Sublist (A.drop i) (B.drop (j + 1))) ∧ List.Sublist (A.drop (i + 1)) (B.drop j) := by
  have ea : A.drop i = A.getD i (0, 0) :: A.drop (i + 1) := by
    rw [List.drop_eq_getElem_cons hi]; simp [List.getD_eq_getElem?_getD, hi]
  have hj : j < B.length := by
    refine Nat.lt_of_not_le fun hn => ?_
    rw [List.drop_eq_nil_of_le hn, ea] at h
    cases h
  have eb : B.drop j = B.getD j (0, 0) :: B.drop (j + 1) := by
    rw [List.drop_eq_getElem_cons hj]; simp [List.getD_eq_getElem?_getD, hj]
  refine ⟨hj, fun hne => ?_, ?_⟩
  · rw [ea, eb] at h
    rw [ea]
    generalize A.getD i (0, 0) = x at *
    generalize B.getD j (0, 0) = y at *
    cases h with
    | cons _ h => exact h
    | cons_cons _ h => exact absurd rfl hne
  · rw [ea] at h
    exact (List.sublist_cons_self _ _).trans h
theorem ld_app {l : List Ld} {x : Ld} {i : Nat} (h : i < l.length) : ld (l ++ [x]) i = ld l i := by
  unfold ld; simp only [List.getD_eq_getElem?_getD]; rw [List.getElem?_append_left h]
theorem ld_last {l : List Ld} {x : Ld} : ld (l ++ [x]) l.length = x := by
  unfold ld; simp [List.getD_eq_getElem?_getD]
theorem pow_app {l : List Ld} {x : Ld} : ∀ i, i ≤ l.length → powUp (l ++ [x]) i = powUp l i ∧ lampUp (l ++ [x]) i = lampUp l i
  | 0, _ => ⟨rfl, rfl⟩
  | i + 1, h => by
    obtain ⟨h1, h2⟩ := pow_app (l := l) (x := x) i (by omega)
    constructor
    · show powUp (l ++ [x]) i + _ = powUp l i + _; rw [h1, ld_app (by omega)]
    · show lampUp (l ++ [x]) i + _ = lampUp l i + _; rw [h2, ld_app (by omega)]
def genF (f : Fl) (w : Int) : Fl := setL f (f.loads ++ [⟨f.front, 0, 0, 0, 0, 2, w⟩])
theorem loadsE_set (f : Fl) (ys l : List Ld) : loadsE (setL f ys) l = loadsE f l := by
  induction l with
  | nil => rfl
  | cons x l ih =>
    have e : loadE (setL f ys) x = loadE f x := rfl
    rw [loadsE, loadsE, e, ih]
theorem chkGen {f : Fl} {n w : Int} (h : FlGood f n) (hn : n ≤ 19) (hw : 0 ≤ w ∧ w ≤ 1000000) : chkE (genF f w) = 0 := by
  have h1 := h.len; have h2 := h.wid; have h3 := h.axles; have h4 := h.turn; have h5 := h.kilos; have h6 := h.mid; have h7 := h.high; have h8 := h.many
  have h0 := chkGood h (by omega)
  unfold chkE at h0
  rw [if_neg (by omega), if_neg (by omega), if_neg (by omega), if_neg (by omega), if_neg (by omega), if_neg (by omega), if_neg (by omega), if_neg (by omega), if_neg (by omega)] at h0
  have e : loadE f ⟨f.front, 0, 0, 0, 0, 2, w⟩ = 0 := by
    have s1 : spanE 0 0 100000 = 0 := by decide
    have s2 : spanE 0 0 2000 = 0 := by decide
    unfold loadE
    dsimp only
    rw [s1, s2, if_neg (by omega), if_neg (by omega), if_neg (by omega), if_neg (by omega), if_neg (by omega), if_neg (by omega)]
  have hlen : (((genF f w).loads.length : Nat) : Int) = f.loads.length + 1 := by
    show (((f.loads ++ [_]).length : Nat) : Int) = _
    rw [List.length_append]; rfl
  unfold chkE
  rw [hlen]
  show (if ¬ (1 ≤ f.len ∧ f.len ≤ 3000) then _ else _) = _
  rw [if_neg (by omega), if_neg (by show ¬ ¬ (1 ≤ f.wid ∧ f.wid ≤ 1000); omega), if_neg (by show ¬ ¬ (0 ≤ f.front ∧ f.front ≤ f.len ∧ 0 ≤ f.rear ∧ f.rear ≤ f.len); omega), if_neg (by show ¬ f.front ≥ f.rear; omega),
    if_neg (by show ¬ ¬ (0 ≤ f.turn ∧ f.turn ≤ 20000); omega), if_neg (by show ¬ ¬ (0 ≤ f.kilos ∧ f.kilos ≤ 100000); omega), if_neg (by show ¬ ¬ (0 ≤ f.mid ∧ f.mid ≤ f.len); omega), if_neg (by show ¬ ¬ (0 ≤ f.high ∧ f.high ≤ 2000); omega), if_neg (by omega)]
  show loadsE (setL f _) (f.loads ++ [⟨f.front, 0, 0, 0, 0, 2, w⟩]) = 0
  rw [loadsE_set]
  exact loadsE_app f _ _ h0 e
theorem fireS_gen {f : Fl} {n w ap : Int} (h : FlGood f n) (hn : n ≤ 19) (hw : 0 ≤ w ∧ w ≤ 1000000) (ha : 0 ≤ ap ∧ ap ≤ 3000) : fireE (genF f w) ap = 0 ∧ fireS (genF f w) ap = powUp f.loads f.loads.length - lampUp f.loads f.loads.length + w := by
  have h0 := chkGen h hn hw
  have e : fireE (genF f w) ap = 0 := by unfold fireE; rw [if_neg (by omega), if_neg (by omega)]
  refine ⟨e, ?_⟩
  unfold fireS
  rw [if_pos e]
  have el : (genF f w).loads = f.loads ++ [⟨f.front, 0, 0, 0, 0, 2, w⟩] := rfl
  rw [el, List.length_append]
  obtain ⟨h1, h2⟩ := pow_app (l := f.loads) (x := ⟨f.front, 0, 0, 0, 0, 2, w⟩) f.loads.length (Nat.le_refl _)
  show powUp _ f.loads.length + _ - (lampUp _ f.loads.length + _) = _
  rw [h1, h2, ld_last]
  simp
  omega
theorem fireE_good {f : Fl} {n ap : Int} (h : FlGood f n) (hn : n ≤ 20) (ha : 0 ≤ ap ∧ ap ≤ 3000) : fireE f ap = 0 ∧ fireL f ap = nearUp f.loads ap f.loads.length ∧ fireS f ap = powUp f.loads f.loads.length - lampUp f.loads f.loads.length := by
  have h0 := chkGood h hn
  have e : fireE f ap = 0 := by unfold fireE; rw [if_neg (by omega), if_neg (by omega)]
  exact ⟨e, if_pos e, if_pos e⟩
end Go.Proofs.Ytkjpceapflhmnaa
