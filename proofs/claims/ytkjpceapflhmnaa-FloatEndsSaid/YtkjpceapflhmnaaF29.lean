/- Contracts of functions that the claim reaches: what each call gives, told in our own logic. Conditions: those of each theorem. -/
import Derived.Test.YtkjpceapflhmnaaF27
set_option linter.all false
set_option linter.unusedSimpArgs false
set_option linter.unusedVariables false
namespace Go.Proofs.Ytkjpceapflhmnaa
open Go.Av
/-! ### The plain law of ballast -/
def withF (f : Fl) (p m : Int) : Fl := { f with loads := f.loads ++ [⟨p, m, m, 0, 0, 1, 0⟩] }
theorem wl_app (arm : Int → Int) (s : Int) (l : List Ld) (x : Ld) : wl arm s (l ++ [x]) = wl arm s l + x.lo * arm x.at_ := by unfold wl; simp; omega
theorem wh_app (arm : Int → Int) (s : Int) (l : List Ld) (x : Ld) : wh arm s (l ++ [x]) = wh arm s l + x.hi * arm x.at_ := by unfold wh; simp; omega
theorem wL_with (arm : Int → Int) (f : Fl) (p m : Int) : wL arm (withF f p m) 0 0 = wL arm f p m := by
  show wl arm (f.kilos * arm f.mid + 0 * arm 0) (f.loads ++ [_]) = _
  rw [wl_app]
  unfold wL wl
  dsimp only
  omega
theorem wH_with (arm : Int → Int) (f : Fl) (p m : Int) : wH arm (withF f p m) 0 0 = wH arm f p m := by
  show wh arm (f.kilos * arm f.mid + 0 * arm 0) (f.loads ++ [_]) = _
  rw [wh_app]
  unfold wH wh
  dsimp only
  omega
theorem fold_ge (l : List Int) : ∀ s : Int, s ≤ l.foldl max s := by
  induction l with
  | nil => intro s; exact Int.le_refl _
  | cons x l ih => intro s; exact Int.le_trans (by omega) (ih (max s x))
theorem tl_with {f : Fl} (p m : Int) (h : 0 ≤ f.high) : tl (withF f p m).high (withF f p m).loads = tl f.high f.loads := by
  show tl f.high (f.loads ++ [_]) = _
  unfold tl
  rw [List.map_append, List.foldl_append]
  have := fold_ge (f.loads.map (·.tlo)) f.high
  simp only [List.map_cons, List.map_nil, List.foldl_cons, List.foldl_nil]
  omega
theorem th_with {f : Fl} (p m : Int) (h : 0 ≤ f.high) : th (withF f p m).high (withF f p m).loads = th f.high f.loads := by
  show th f.high (f.loads ++ [_]) = _
  unfold th
  rw [List.map_append, List.foldl_append]
  have := fold_ge (f.loads.map (·.thi)) f.high
  simp only [List.map_cons, List.map_nil, List.foldl_cons, List.foldl_nil]
  omega
theorem sP_with (f : Fl) (p m : Int) : sP wL (withF f p m) 0 0 ↔ sP wL f p m := by
  show (0 ≤ wL (frontA f) (withF f p m) 0 0 ∧ 0 ≤ wL (rearA f) (withF f p m) 0 0) ↔ _
  rw [wL_with, wL_with]; rfl
theorem brL_with (f : Fl) (p m : Int) (x : Hu) : brP wL (withF f p m) 0 0 x ↔ brP wL f p m x := by
  show (wL oneA (withF f p m) 0 0 ≤ x.a ∧ max (wL (frontA f) (withF f p m) 0 0) (wL (rearA f) (withF f p m) 0 0) ≤ x.b * (f.rear - f.front)) ↔ _
  rw [wL_with, wL_with, wL_with]; rfl
theorem brH_with (f : Fl) (p m : Int) (x : Hu) : brP wH (withF f p m) 0 0 x ↔ brP wH f p m x := by
  show (wH oneA (withF f p m) 0 0 ≤ x.a ∧ max (wH (frontA f) (withF f p m) 0 0) (wH (rearA f) (withF f p m) 0 0) ≤ x.b * (f.rear - f.front)) ↔ _
  rw [wH_with, wH_with, wH_with]; rfl
theorem bend_with (f : Fl) (p m : Int) (x : Hu) : bendP (withF f p m) x ↔ bendP f x := Iff.rfl
theorem pV_with {f : Fl} (p m : Int) (x : Hu) (h : 0 ≤ f.high) : pV (withF f p m) 0 0 x = pV f p m x := by
  unfold pV
  rw [tl_with p m h, th_with p m h]
  simp only [brL_with, brH_with, bend_with]
theorem w_mono {arm : Int → Int} {f : Fl} {p m m' : Int} (ha : 0 ≤ arm p) (hm : m ≤ m') : wL arm f p m ≤ wL arm f p m' ∧ wH arm f p m ≤ wH arm f p m' := by
  have := Int.mul_le_mul_of_nonneg_right hm ha
  unfold wL wH wl wh
  omega
theorem sP_mono {f : Fl} {p m m' : Int} (hp : f.front ≤ p ∧ p ≤ f.rear) (hm : m ≤ m') (h : sP wL f p m) : sP wL f p m' := by
  have h1 := (w_mono (arm := frontA f) (f := f) (p := p) (by unfold frontA; omega) hm).1
  have h2 := (w_mono (arm := rearA f) (f := f) (p := p) (by unfold rearA; omega) hm).1
  unfold sP at h ⊢
  omega
theorem pV_mono {f : Fl} {p m m' : Int} (x : Hu) (hp : f.front ≤ p ∧ p ≤ f.rear) (hm : m ≤ m') (h : pV f p m' x = 1) : pV f p m x = 1 := by
  have h1 := (w_mono (arm := frontA f) (f := f) (p := p) (by unfold frontA; omega) hm).2
  have h2 := (w_mono (arm := rearA f) (f := f) (p := p) (by unfold rearA; omega) hm).2
  have h3 := (w_mono (arm := oneA) (f := f) (p := p) (by unfold oneA; omega) hm).2
  unfold pV at h ⊢
  split
  · rename_i e; rw [if_pos e] at h; exact h
  · rename_i e; rw [if_neg e] at h
    split
    · rename_i e2; rw [if_pos e2] at h; exact h
    · rename_i e2; rw [if_neg e2] at h
      by_cases e3 : brP wH f p m' x
      · have : brP wH f p m x := by unfold brP at e3 ⊢; omega
        rw [if_pos this]
      · rw [if_neg e3] at h
        split at h <;> omega
theorem goes_mono {f : Fl} {p m m' : Int} {r : List Hu} (hp : f.front ≤ p ∧ p ≤ f.rear) (hm : m ≤ m') (h : goesB f p m' r = true) : goesB f p m r = true :=
  goes_iff.2 fun j hj => pV_mono _ hp hm (goes_iff.1 h j hj)
theorem bal_law {f : Fl} {r : List Hu} {p a b : Int} (hp : f.front ≤ p ∧ p ≤ f.rear) (ha : SrchOk 100001 (fun m => decide (sP wL f p m)) a) (hb : SrchOk 100001 (fun m => !goesB f p m r) b) (m : Int) (h0 : 0 ≤ m) (h1 : m ≤ 100000) :
    (sP wL f p m ∧ goesB f p m r = true) ↔ (a ≤ m ∧ m < b) := by
  obtain ⟨a1, a2, a3, a4⟩ := ha
  obtain ⟨b1, b2, b3, b4⟩ := hb
  dsimp only at a3 a4 b3 b4
  constructor
  · rintro ⟨g1, g2⟩
    refine ⟨Int.not_lt.1 fun hlt => ?_, Int.not_le.1 fun hle => ?_⟩
    · exact of_decide_eq_false (a3 (by omega)) (sP_mono hp (by omega) g1)
    · have := b4 (by omega)
      rw [goes_mono hp hle g2] at this
      exact absurd this (by decide)
  · rintro ⟨g1, g2⟩
    refine ⟨sP_mono hp g1 (of_decide_eq_true (a4 (by omega))), ?_⟩
    have := b3 (by omega)
    refine goes_mono hp (m' := b - 1) (by omega) ?_
    cases e : goesB f p (b - 1) r with
    | true => rfl
    | false => rw [e] at this; exact absurd this (by decide)
theorem loadsE_app (f : Fl) (x : Ld) : ∀ l : List Ld, loadsE f l = 0 → loadE f x = 0 → loadsE f (l ++ [x]) = 0 := by
  intro l
  induction l with
  | nil => intro _ h; show (if loadE f x ≠ 0 then loadE f x else 0) = 0; rw [if_neg (by omega)]
  | cons y l ih =>
    intro h hx
    unfold loadsE at h
    show (if loadE f y ≠ 0 then loadE f y else loadsE f (l ++ [x])) = 0
    split at h
    · contradiction
    · rename_i e; rw [if_neg e]; exact ih h hx
theorem loadsE_with (f : Fl) (p m : Int) (l : List Ld) : loadsE (withF f p m) l = loadsE f l := by
  induction l with
  | nil => rfl
  | cons y l ih =>
    show (if loadE f y ≠ 0 then loadE f y else loadsE (withF f p m) l) = (if loadE f y ≠ 0 then loadE f y else loadsE f l)
    rw [ih]
theorem chkWith {f : Fl} {n p m : Int} (h : FlGood f n) (hn : n ≤ 19) (hp : f.front ≤ p ∧ p ≤ f.rear) (hm : 0 ≤ m ∧ m ≤ 100000) : chkE (withF f p m) = 0 := by
  have h1 := h.len; have h2 := h.wid; have h3 := h.axles; have h4 := h.turn; have h5 := h.kilos; have h6 := h.mid; have h7 := h.high; have h8 := h.many
  have h0 := chkGood h (by omega)
  unfold chkE at h0
  rw [if_neg (by omega), if_neg (by omega), if_neg (by omega), if_neg (by omega), if_neg (by omega), if_neg (by omega), if_neg (by omega), if_neg (by omega), if_neg (by omega)] at h0
  have e : loadE f ⟨p, m, m, 0, 0, 1, 0⟩ = 0 := by
    have s1 : spanE m m 100000 = 0 := by unfold spanE; rw [if_neg (by omega), if_neg (by omega)]
    have s2 : spanE 0 0 2000 = 0 := by decide
    unfold loadE
    dsimp only
    rw [s1, s2, if_neg (by omega), if_neg (by omega), if_neg (by omega), if_neg (by omega), if_neg (by omega), if_neg (by omega)]
  have hlen : (((withF f p m).loads.length : Nat) : Int) = f.loads.length + 1 := by
    show (((f.loads ++ [_]).length : Nat) : Int) = _
    rw [List.length_append]; rfl
  unfold chkE
  rw [hlen, loadsE_with]
  show (if ¬ (1 ≤ f.len ∧ f.len ≤ 3000) then _ else _) = _
  rw [if_neg (by omega), if_neg (by show ¬ ¬ (1 ≤ f.wid ∧ f.wid ≤ 1000); omega), if_neg (by show ¬ ¬ (0 ≤ f.front ∧ f.front ≤ f.len ∧ 0 ≤ f.rear ∧ f.rear ≤ f.len); omega), if_neg (by show ¬ f.front ≥ f.rear; omega),
    if_neg (by show ¬ ¬ (0 ≤ f.turn ∧ f.turn ≤ 20000); omega), if_neg (by show ¬ ¬ (0 ≤ f.kilos ∧ f.kilos ≤ 100000); omega), if_neg (by show ¬ ¬ (0 ≤ f.mid ∧ f.mid ≤ f.len); omega), if_neg (by show ¬ ¬ (0 ≤ f.high ∧ f.high ≤ 2000); omega), if_neg (by omega)]
  exact loadsE_app f _ _ h0 e
end Go.Proofs.Ytkjpceapflhmnaa
