/- Contracts of functions that the claim reaches: what each call gives, told in our own logic. Conditions: those of each theorem. -/
import Derived.Test.YtkjpceapflhmnaaF39
import Derived.Test.YtkjpceapflhmnaaF23
set_option linter.all false
set_option linter.unusedSimpArgs false
set_option linter.unusedVariables false
namespace Go.Proofs.Ytkjpceapflhmnaa
open Go.Av
/-! ### The plain law of truths -/
/-- A truth that lies within the spans. -/
structure TrIn (l : List Ld) (ks ts : List Int) : Prop where
  kl : ks.length = l.length
  tl : ts.length = l.length
  k : ∀ i, i < l.length → (ld l i).lo ≤ ks.getD i 0 ∧ ks.getD i 0 ≤ (ld l i).hi
  t : ∀ i, i < l.length → (ld l i).tlo ≤ ts.getD i 0 ∧ ts.getD i 0 ≤ (ld l i).thi
theorem tr_car {arm : Int → Int} {s : Int} {l : List Ld} {ks ts : List Int} (h : TrIn l ks ts) (ha : ∀ x ∈ l, 0 ≤ arm x.at_) : ∀ i, i ≤ l.length → wl arm s (l.take i) ≤ carN arm s l ks i ∧ carN arm s l ks i ≤ wh arm s (l.take i) := by
  intro i
  induction i with
  | zero => intro _; simp [carN, wl, wh]
  | succ i ih =>
    intro hi
    have h1 := ih (by omega)
    have hk := h.k i (by omega)
    have hx := ha _ (ld_mem (l := l) (i := i) (by omega))
    have m1 := Int.mul_le_mul_of_nonneg_right hk.1 hx
    have m2 := Int.mul_le_mul_of_nonneg_right hk.2 hx
    rw [wl_step (by omega), wh_step (by omega)]
    show _ ≤ carN arm s l ks i + ks.getD i 0 * arm (ld l i).at_ ∧ carN arm s l ks i + ks.getD i 0 * arm (ld l i).at_ ≤ _
    omega
theorem sum_car (s : Int) (l : List Ld) (ks : List Int) : ∀ i, sumN s ks i = carN oneA s l ks i := by
  intro i
  induction i with
  | zero => rfl
  | succ i ih =>
    show sumN s ks i + ks.getD i 0 = carN oneA s l ks i + ks.getD i 0 * 1
    rw [ih, Int.mul_one]
theorem tr_tall {s : Int} {l : List Ld} {ks ts : List Int} (h : TrIn l ks ts) : ∀ i, i ≤ l.length → tl s (l.take i) ≤ tallN ts s i ∧ tallN ts s i ≤ th s (l.take i) := by
  intro i
  induction i with
  | zero => intro _; simp [tallN, Go.Proofs.Ytkjpceapflhmnaa.tl, th]
  | succ i ih =>
    intro hi
    have h1 := ih (by omega)
    have hk := h.t i (by omega)
    rw [tl_step (by omega), th_step (by omega)]
    show _ ≤ max (tallN ts s i) (ts.getD i 0) ∧ max (tallN ts s i) (ts.getD i 0) ≤ _
    omega
def frT (f : Fl) (ks : List Int) : Int := carN (frontA f) (f.kilos * (f.rear - f.mid)) f.loads ks ks.length
def reT (f : Fl) (ks : List Int) : Int := carN (rearA f) (f.kilos * (f.mid - f.front)) f.loads ks ks.length
def toT (f : Fl) (ks : List Int) : Int := sumN f.kilos ks ks.length
def taT (f : Fl) (ts : List Int) : Int := tallN ts f.high ts.length
structure TrF (f : Fl) (ks ts : List Int) : Prop where
  tot : wL oneA f 0 0 ≤ toT f ks ∧ toT f ks ≤ wH oneA f 0 0
  fr : wL (frontA f) f 0 0 ≤ frT f ks ∧ frT f ks ≤ wH (frontA f) f 0 0
  re : wL (rearA f) f 0 0 ≤ reT f ks ∧ reT f ks ≤ wH (rearA f) f 0 0
  ta : Go.Proofs.Ytkjpceapflhmnaa.tl f.high f.loads ≤ taT f ts ∧ taT f ts ≤ th f.high f.loads
theorem wL_eq (arm : Int → Int) (f : Fl) : wL arm f 0 0 = wl arm (f.kilos * arm f.mid) f.loads := by
  show wl arm (f.kilos * arm f.mid + 0 * arm 0) f.loads = _
  rw [Int.zero_mul, Int.add_zero]
theorem wH_eq (arm : Int → Int) (f : Fl) : wH arm f 0 0 = wh arm (f.kilos * arm f.mid) f.loads := by
  show wh arm (f.kilos * arm f.mid + 0 * arm 0) f.loads = _
  rw [Int.zero_mul, Int.add_zero]
theorem trF {f : Fl} {n : Int} {ks ts : List Int} (hf : FlGood f n) (h : TrIn f.loads ks ts) : TrF f ks ts := by
  have w := fun arm s ha => tr_car (arm := arm) (s := s) h ha f.loads.length (Nat.le_refl _)
  have t := tr_tall (s := f.high) h f.loads.length (Nat.le_refl _)
  simp only [List.take_length] at w t
  have hax := hf.axles
  refine ⟨?_, ?_, ?_, ?_⟩
  · rw [wL_eq, wH_eq]
    unfold toT
    rw [sum_car _ f.loads, h.kl]
    have := w oneA f.kilos (fun x _ => by unfold oneA; omega)
    rw [show f.kilos * oneA f.mid = f.kilos from Int.mul_one _]
    exact this
  · rw [wL_eq, wH_eq]
    unfold frT
    rw [h.kl]
    exact w (frontA f) _ (fun x hx => by have := (hf.loads x hx).at_; unfold frontA; omega)
  · rw [wL_eq, wH_eq]
    unfold reT
    rw [h.kl]
    exact w (rearA f) _ (fun x hx => by have := (hf.loads x hx).at_; unfold rearA; omega)
  · unfold taT
    rw [h.tl]
    exact t
theorem tr_axle {W n d a : Int} (hd : 1 ≤ d) (h1 : W ≤ a) : downI W d * d ≤ a := by
  have := down_spec W d hd
  omega
theorem tr_axle' {W d a : Int} (hd : 1 ≤ d) (h1 : a ≤ W) : a ≤ upI W d * d := by
  have := down_spec (-W) d hd
  unfold upI
  rw [Int.neg_mul]
  omega
/-- What a verdict says of a truth. -/
def Agr (v : Int) (p : Prop) : Prop := v = 3 ∨ v = 1 ∧ p ∨ v = 2 ∧ ¬ p
def goesT (f : Fl) (x : Hu) (ks ts : List Int) : Prop :=
  if x.kind = 1 then turnsP f x (max f.turn (uI (2 * x.a + f.wid) 2)) else if x.kind = 2 then taT f ts ≤ x.a
  else toT f ks ≤ x.a ∧ frT f ks ≤ x.b * (f.rear - f.front) ∧ reT f ks ≤ x.b * (f.rear - f.front)
instance (f : Fl) (x : Hu) (ks ts : List Int) : Decidable (goesT f x ks ts) := by unfold goesT; infer_instance
theorem upTwo {n : Int} : uI n 2 = (n + 1) / 2 := by
  have h : downI (-n) 2 * 2 ≤ -n ∧ -n < downI (-n) 2 * 2 + 2 := down_spec (-n) 2 (by omega)
  show -(downI (-n) 2) = _
  omega
theorem turns_bend {f : Fl} {x : Hu} (hf : FlOk f) : turnsP f x (max f.turn (uI (2 * x.a + f.wid) 2)) ↔ bendP f x := by
  rw [upTwo]
  unfold turnsP bendP bR
  constructor
  · exact fun h => h.2.2
  · exact fun h => ⟨by omega, by omega, h⟩
theorem trStands {f : Fl} {ks ts : List Int} (h : TrF f ks ts) : Agr (sV f 0 0) (0 ≤ frT f ks ∧ 0 ≤ reT f ks) := by
  have h1 := h.fr; have h2 := h.re
  have e3 : sP wL f 0 0 ↔ (0 ≤ wL (frontA f) f 0 0 ∧ 0 ≤ wL (rearA f) f 0 0) := Iff.rfl
  have e4 : sP wH f 0 0 ↔ (0 ≤ wH (frontA f) f 0 0 ∧ 0 ≤ wH (rearA f) f 0 0) := Iff.rfl
  unfold Agr sV
  simp only [e3, e4]
  split
  · right; left; exact ⟨rfl, by omega⟩
  · split
    · left; rfl
    · right; right; exact ⟨rfl, by omega⟩
theorem trGoes {f : Fl} {ks ts : List Int} (h : TrF f ks ts) (hf : FlOk f) (x : Hu) : Agr (pV f 0 0 x) (goesT f x ks ts) := by
  have h1 := h.fr; have h2 := h.re; have h3 := h.tot; have h4 := h.ta
  have e3 : brP wL f 0 0 x ↔ (wL oneA f 0 0 ≤ x.a ∧ max (wL (frontA f) f 0 0) (wL (rearA f) f 0 0) ≤ x.b * (f.rear - f.front)) := Iff.rfl
  have e4 : brP wH f 0 0 x ↔ (wH oneA f 0 0 ≤ x.a ∧ max (wH (frontA f) f 0 0) (wH (rearA f) f 0 0) ≤ x.b * (f.rear - f.front)) := Iff.rfl
  have e5 := turns_bend (x := x) hf
  unfold Agr pV goesT
  simp only [e3, e4, e5]
  generalize x.b * (f.rear - f.front) = q at *
  by_cases k1 : x.kind = 1
  · simp only [k1, if_true]
    split
    · right; left; exact ⟨rfl, by assumption⟩
    · right; right; exact ⟨rfl, by assumption⟩
  · simp only [if_neg k1]
    by_cases k2 : x.kind = 2
    · simp only [k2, if_true]
      split
      · right; left; exact ⟨rfl, by omega⟩
      · split
        · left; rfl
        · right; right; exact ⟨rfl, by omega⟩
    · simp only [if_neg k2]
      split
      · right; left; exact ⟨rfl, by omega⟩
      · split
        · left; rfl
        · right; right; exact ⟨rfl, by omega⟩
end Go.Proofs.Ytkjpceapflhmnaa
