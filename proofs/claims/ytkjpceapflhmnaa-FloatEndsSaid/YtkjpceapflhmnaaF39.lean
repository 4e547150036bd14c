/- Contracts of functions that the claim reaches: what each call gives, told in our own logic. Conditions: those of each theorem. -/
import Derived.Test.YtkjpceapflhmnaaF36
set_option linter.all false
set_option linter.unusedSimpArgs false
set_option linter.unusedVariables false
namespace Go.Proofs.Ytkjpceapflhmnaa
open Go.Av
/-! ### The plain law of balance -/
/-- A load whose weight is known. -/
def Known (l : List Ld) : Prop := ∀ x ∈ l, x.lo = x.hi
def turnL (len : Int) (l : List Ld) : List Ld := l.map fun x => { x with at_ := len - x.at_ }
def turnF (f : Fl) : Fl := { f with front := f.len - f.rear, rear := f.len - f.front, mid := f.len - f.mid, loads := turnL f.len f.loads }
theorem known_w (arm : Int → Int) (s : Int) : ∀ l : List Ld, Known l → wh arm s l = wl arm s l := by
  intro l h
  unfold wl wh
  congr 1
  congr 1
  exact List.map_congr_left fun x hx => by rw [h x hx]
theorem turn_sum (len : Int) (arm arm' : Int → Int) (h : ∀ a, arm' (len - a) = arm a) : ∀ l : List Ld,
    ((turnL len l).map fun x => x.lo * arm' x.at_).sum = (l.map fun x => x.lo * arm x.at_).sum ∧ ((turnL len l).map fun x => x.hi * arm' x.at_).sum = (l.map fun x => x.hi * arm x.at_).sum := by
  intro l
  unfold turnL
  rw [List.map_map, List.map_map]
  constructor <;> congr 1 <;> exact List.map_congr_left fun x _ => by simp only [Function.comp_apply, h]
theorem turn_W (f : Fl) (arm arm' : Int → Int) (h : ∀ a, arm' (f.len - a) = arm a) : wL arm' (turnF f) 0 0 = wL arm f 0 0 ∧ wH arm' (turnF f) 0 0 = wH arm f 0 0 := by
  have hs := turn_sum f.len arm arm' h f.loads
  have e1 : wL arm' (turnF f) 0 0 = f.kilos * arm' (f.len - f.mid) + 0 * arm' 0 + ((turnL f.len f.loads).map fun x => x.lo * arm' x.at_).sum := rfl
  have e2 : wH arm' (turnF f) 0 0 = f.kilos * arm' (f.len - f.mid) + 0 * arm' 0 + ((turnL f.len f.loads).map fun x => x.hi * arm' x.at_).sum := rfl
  have e3 : wL arm f 0 0 = f.kilos * arm f.mid + 0 * arm 0 + (f.loads.map fun x => x.lo * arm x.at_).sum := rfl
  have e4 : wH arm f 0 0 = f.kilos * arm f.mid + 0 * arm 0 + (f.loads.map fun x => x.hi * arm x.at_).sum := rfl
  rw [e1, e2, e3, e4, hs.1, hs.2, h]
  omega
theorem turn_t (f : Fl) : tl (turnF f).high (turnF f).loads = tl f.high f.loads ∧ th (turnF f).high (turnF f).loads = th f.high f.loads := by
  show tl f.high (turnL f.len f.loads) = _ ∧ th f.high (turnL f.len f.loads) = _
  unfold tl th turnL
  rw [List.map_map, List.map_map]
  exact ⟨rfl, rfl⟩
theorem sum_d (f : Fl) : ∀ l : List Ld, (l.map fun x => x.lo * frontA f x.at_).sum + (l.map fun x => x.lo * rearA f x.at_).sum = (l.map fun x => x.lo * oneA x.at_).sum * (f.rear - f.front) := by
  intro l
  induction l with
  | nil => simp
  | cons x l ih =>
    simp only [List.map_cons, List.sum_cons, Int.add_mul]
    have : x.lo * frontA f x.at_ + x.lo * rearA f x.at_ = x.lo * oneA x.at_ * (f.rear - f.front) := by
      unfold frontA rearA oneA
      rw [← Int.mul_add, Int.mul_one]
      congr 1
      omega
    omega
theorem both_W (f : Fl) : wL (frontA f) f 0 0 + wL (rearA f) f 0 0 = wL oneA f 0 0 * (f.rear - f.front) := by
  have hs := sum_d f f.loads
  have e3 : ∀ arm : Int → Int, wL arm f 0 0 = f.kilos * arm f.mid + 0 * arm 0 + (f.loads.map fun x => x.lo * arm x.at_).sum := fun _ => rfl
  rw [e3, e3, e3, Int.add_mul, Int.add_mul]
  have : f.kilos * frontA f f.mid + f.kilos * rearA f f.mid = f.kilos * oneA f.mid * (f.rear - f.front) := by
    unfold frontA rearA oneA
    rw [← Int.mul_add, Int.mul_one]
    congr 1
    omega
  simp only [Int.zero_mul]
  omega
theorem balance {f : Fl} (hd : 1 ≤ f.rear - f.front) (hk : Known f.loads) :
    wL oneA f 0 0 = wH oneA f 0 0 ∧
    (downI (wL (frontA f) f 0 0) (f.rear - f.front) + downI (wL (rearA f) f 0 0) (f.rear - f.front) ≤ wL oneA f 0 0 ∧ wL oneA f 0 0 - 1 ≤ downI (wL (frontA f) f 0 0) (f.rear - f.front) + downI (wL (rearA f) f 0 0) (f.rear - f.front)) ∧
    (wL oneA f 0 0 ≤ upI (wH (frontA f) f 0 0) (f.rear - f.front) + upI (wH (rearA f) f 0 0) (f.rear - f.front) ∧ upI (wH (frontA f) f 0 0) (f.rear - f.front) + upI (wH (rearA f) f 0 0) (f.rear - f.front) ≤ wL oneA f 0 0 + 1) := by
  have hW : ∀ arm, wH arm f 0 0 = wL arm f 0 0 := fun arm => known_w arm _ f.loads hk
  rw [hW, hW, hW]
  have hb := both_W f
  generalize wL (frontA f) f 0 0 = F at *
  generalize wL (rearA f) f 0 0 = R at *
  generalize wL oneA f 0 0 = W at *
  generalize f.rear - f.front = d at *
  have a1 := down_spec F d hd
  have a2 := down_spec R d hd
  have a3 := down_spec (-F) d hd
  have a4 := down_spec (-R) d hd
  unfold upI
  generalize downI F d = p at *
  generalize downI R d = q at *
  generalize downI (-F) d = u at *
  generalize downI (-R) d = w at *
  have key : ∀ z : Int, z * d ≤ W * d → z ≤ W := fun z h => Int.le_of_mul_le_mul_right h (by omega)
  have key2 : ∀ z : Int, W * d < z * d → W < z := fun z h => Int.lt_of_mul_lt_mul_right h (by omega)
  have k1 := key (p + q) (by rw [Int.add_mul]; omega)
  have k2 := key2 (p + q + 2) (by rw [Int.add_mul, Int.add_mul]; omega)
  have k3 : -(u + w) ≥ W := by
    refine Int.not_lt.1 fun hlt => ?_
    have := Int.mul_le_mul_of_nonneg_right (a := -(u + w) + 1) (b := W) (c := d) (by omega) (by omega)
    rw [Int.add_mul, Int.neg_mul, Int.add_mul] at this
    omega
  have k4 : -(u + w) ≤ W + 1 := by
    refine Int.not_lt.1 fun hlt => ?_
    have := Int.mul_le_mul_of_nonneg_right (a := W + 2) (b := -(u + w)) (c := d) (by omega) (by omega)
    rw [Int.add_mul, Int.neg_mul, Int.add_mul] at this
    omega
  omega
end Go.Proofs.Ytkjpceapflhmnaa
