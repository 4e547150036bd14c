/- Contracts of functions that the claim reaches: what each call gives, told in our own logic. Conditions: those of each theorem. -/
import Derived.Test.YtkjpceapflhmnaaF34
set_option linter.all false
set_option linter.unusedSimpArgs false
set_option linter.unusedVariables false
namespace Go.Proofs.Ytkjpceapflhmnaa
open Go.Av
/-! ### The plain law of narrower spans -/
/-- Narrower spans. -/
structure Nar (x y : Ld) : Prop where
  at_ : y.at_ = x.at_
  lo : x.lo ≤ y.lo ∧ y.lo ≤ y.hi ∧ y.hi ≤ x.hi
  top : x.tlo ≤ y.tlo ∧ y.tlo ≤ y.thi ∧ y.thi ≤ x.thi
  kind : y.kind = x.kind
  watts : y.watts = x.watts
def Nars (xs ys : List Ld) : Prop := ys.length = xs.length ∧ ∀ i, i < xs.length → Nar (ld xs i) (ld ys i)
theorem Nars.cons {x y : Ld} {xs ys : List Ld} (h : Nars (x :: xs) (y :: ys)) : Nar x y ∧ Nars xs ys :=
  ⟨h.2 0 (by simp), by have := h.1; simpa using this, fun i hi => h.2 (i + 1) (by simpa using hi)⟩
theorem nar_w (arm : Int → Int) : ∀ xs ys : List Ld, Nars xs ys → (∀ x ∈ xs, 0 ≤ arm x.at_) →
    (xs.map fun x => x.lo * arm x.at_).sum ≤ (ys.map fun x => x.lo * arm x.at_).sum ∧ (ys.map fun x => x.lo * arm x.at_).sum ≤ (ys.map fun x => x.hi * arm x.at_).sum ∧ (ys.map fun x => x.hi * arm x.at_).sum ≤ (xs.map fun x => x.hi * arm x.at_).sum
  | [], [], _, _ => by simp
  | [], _ :: _, h, _ => by have := h.1; simp at this
  | _ :: _, [], h, _ => by have := h.1; simp at this
  | x :: xs, y :: ys, h, ha => by
    obtain ⟨h1, h2⟩ := h.cons
    have ih := nar_w arm xs ys h2 fun z hz => ha z (List.mem_cons_of_mem _ hz)
    have hx := ha x (List.mem_cons_self ..)
    have l1 := h1.lo
    have m1 := Int.mul_le_mul_of_nonneg_right l1.1 hx
    have m2 := Int.mul_le_mul_of_nonneg_right l1.2.1 hx
    have m3 := Int.mul_le_mul_of_nonneg_right l1.2.2 hx
    simp only [List.map_cons, List.sum_cons, h1.at_]
    omega
theorem nar_t : ∀ (xs ys : List Ld), Nars xs ys → ∀ s s' s'' s''' : Int, s ≤ s' → s' ≤ s'' → s'' ≤ s''' →
    (xs.map (·.tlo)).foldl max s ≤ (ys.map (·.tlo)).foldl max s' ∧ (ys.map (·.tlo)).foldl max s' ≤ (ys.map (·.thi)).foldl max s'' ∧ (ys.map (·.thi)).foldl max s'' ≤ (xs.map (·.thi)).foldl max s'''
  | [], [], _ => by intro s s' s'' s''' h1 h2 h3; exact ⟨h1, h2, h3⟩
  | [], _ :: _, h => by have := h.1; simp at this
  | _ :: _, [], h => by have := h.1; simp at this
  | x :: xs, y :: ys, h => by
    obtain ⟨h1, h2⟩ := h.cons
    intro s s' s'' s''' g1 g2 g3
    have l1 := h1.top
    simp only [List.map_cons, List.foldl_cons]
    exact nar_t xs ys h2 _ _ _ _ (by omega) (by omega) (by omega)
def setL (f : Fl) (ys : List Ld) : Fl := { f with loads := ys }
theorem good_set {f : Fl} {n : Int} {ys : List Ld} (hf : FlGood f n) (h : Nars f.loads ys) : FlGood (setL f ys) n := by
  refine ⟨hf.len, hf.wid, hf.axles, hf.turn, hf.kilos, hf.mid, hf.high, ?_, fun y hy => ?_⟩
  · show (ys.length : Int) ≤ n
    rw [h.1]; exact hf.many
  · obtain ⟨i, hi, rfl⟩ := List.mem_iff_getElem.1 hy
    have hi' : i < ys.length := hi
    have e : ld ys i = ys[i] := by unfold ld; rw [List.getD_eq_getElem?_getD, List.getElem?_eq_getElem hi']; rfl
    have hx := hf.loads _ (ld_mem (l := f.loads) (i := i) (by rw [← h.1]; exact hi'))
    have hn := h.2 i (by rw [← h.1]; exact hi')
    show LdGood (setL f ys) ys[i]
    rw [← e]
    have a1 := hx.at_; have a2 := hx.kilos; have a3 := hx.top; have a4 := hx.kind; have a5 := hx.watts
    have b1 := hn.at_; have b2 := hn.lo; have b3 := hn.top; have b4 := hn.kind; have b5 := hn.watts
    exact ⟨by show f.front ≤ _ ∧ _ ≤ f.rear; omega, by omega, by omega, by omega, by omega⟩
theorem nar_W {f : Fl} {n : Int} {ys : List Ld} (hf : FlGood f n) (h : Nars f.loads ys) (arm : Int → Int) (ha : ∀ a, f.front ≤ a → a ≤ f.rear → 0 ≤ arm a) :
    wL arm f 0 0 ≤ wL arm (setL f ys) 0 0 ∧ wL arm (setL f ys) 0 0 ≤ wH arm (setL f ys) 0 0 ∧ wH arm (setL f ys) 0 0 ≤ wH arm f 0 0 := by
  have := nar_w arm f.loads ys h fun x hx => ha _ (hf.loads x hx).at_.1 (hf.loads x hx).at_.2
  show wl arm (f.kilos * arm f.mid + 0 * arm 0) f.loads ≤ wl arm (f.kilos * arm f.mid + 0 * arm 0) ys ∧ wl arm (f.kilos * arm f.mid + 0 * arm 0) ys ≤ wh arm (f.kilos * arm f.mid + 0 * arm 0) ys ∧ wh arm (f.kilos * arm f.mid + 0 * arm 0) ys ≤ wh arm (f.kilos * arm f.mid + 0 * arm 0) f.loads
  unfold wl wh
  omega
theorem down_spec (n d : Int) (hd : 1 ≤ d) : downI n d * d ≤ n ∧ n < downI n d * d + d := by
  have h1 := Int.tmod_add_mul_tdiv n d
  have e1 : d * n.tdiv d = n.tdiv d * d := Int.mul_comm _ _
  have h2 : n.tmod d < d := Int.tmod_lt_of_pos n (by omega)
  have h3 : -d < n.tmod d := Int.lt_tmod_of_pos n (by omega)
  unfold downI
  split
  · rename_i e
    have : (n.tdiv d - 1) * d = n.tdiv d * d - d := by rw [Int.sub_mul, Int.one_mul]
    omega
  · omega
theorem down_mono {n n' d : Int} (hd : 1 ≤ d) (h : n ≤ n') : downI n d ≤ downI n' d := by
  have h1 := down_spec n d hd
  have h2 := down_spec n' d hd
  refine Int.not_lt.1 fun hlt => ?_
  have := Int.mul_le_mul_of_nonneg_right (a := downI n' d + 1) (b := downI n d) (c := d) (by omega) (by omega)
  rw [Int.add_mul, Int.one_mul] at this
  omega
theorem up_mono {n n' d : Int} (hd : 1 ≤ d) (h : n ≤ n') : upI n d ≤ upI n' d := by
  have := down_mono (n := -n') (n' := -n) hd (by omega)
  unfold upI; omega
structure NarF (f g : Fl) : Prop where
  tot : wL oneA f 0 0 ≤ wL oneA g 0 0 ∧ wH oneA g 0 0 ≤ wH oneA f 0 0
  fr : downI (wL (frontA f) f 0 0) (f.rear - f.front) ≤ downI (wL (frontA g) g 0 0) (g.rear - g.front) ∧ upI (wH (frontA g) g 0 0) (g.rear - g.front) ≤ upI (wH (frontA f) f 0 0) (f.rear - f.front)
  re : downI (wL (rearA f) f 0 0) (f.rear - f.front) ≤ downI (wL (rearA g) g 0 0) (g.rear - g.front) ∧ upI (wH (rearA g) g 0 0) (g.rear - g.front) ≤ upI (wH (rearA f) f 0 0) (f.rear - f.front)
  st : sV f 0 0 = 3 ∨ sV f 0 0 = sV g 0 0
  pv : ∀ x, pV f 0 0 x = 3 ∨ pV f 0 0 x = pV g 0 0 x
theorem narF {f : Fl} {n : Int} {ys : List Ld} (hf : FlGood f n) (h : Nars f.loads ys) : NarF f (setL f ys) := by
  have hax := hf.axles
  have w1 := nar_W hf h oneA (by intros; unfold oneA; omega)
  have w2 := nar_W hf h (frontA f) (by intros; unfold frontA; omega)
  have w3 := nar_W hf h (rearA f) (by intros; unfold rearA; omega)
  have t := nar_t f.loads ys h f.high f.high f.high f.high (Int.le_refl _) (Int.le_refl _) (Int.le_refl _)
  have hd : 1 ≤ f.rear - f.front := by omega
  refine ⟨⟨w1.1, w1.2.2⟩, ⟨down_mono hd w2.1, up_mono hd w2.2.2⟩, ⟨down_mono hd w3.1, up_mono hd w3.2.2⟩, ?_, fun x => ?_⟩
  · have e1 : sP wL (setL f ys) 0 0 ↔ (0 ≤ wL (frontA f) (setL f ys) 0 0 ∧ 0 ≤ wL (rearA f) (setL f ys) 0 0) := Iff.rfl
    have e2 : sP wH (setL f ys) 0 0 ↔ (0 ≤ wH (frontA f) (setL f ys) 0 0 ∧ 0 ≤ wH (rearA f) (setL f ys) 0 0) := Iff.rfl
    have e3 : sP wL f 0 0 ↔ (0 ≤ wL (frontA f) f 0 0 ∧ 0 ≤ wL (rearA f) f 0 0) := Iff.rfl
    have e4 : sP wH f 0 0 ↔ (0 ≤ wH (frontA f) f 0 0 ∧ 0 ≤ wH (rearA f) f 0 0) := Iff.rfl
    unfold sV
    simp only [e1, e2, e3, e4]
    split
    · right; rw [if_pos (by omega)]
    · split
      · left; rfl
      · right; rw [if_neg (by omega), if_neg (by omega)]
  · have e1 : brP wL (setL f ys) 0 0 x ↔ (wL oneA (setL f ys) 0 0 ≤ x.a ∧ max (wL (frontA f) (setL f ys) 0 0) (wL (rearA f) (setL f ys) 0 0) ≤ x.b * (f.rear - f.front)) := Iff.rfl
    have e2 : brP wH (setL f ys) 0 0 x ↔ (wH oneA (setL f ys) 0 0 ≤ x.a ∧ max (wH (frontA f) (setL f ys) 0 0) (wH (rearA f) (setL f ys) 0 0) ≤ x.b * (f.rear - f.front)) := Iff.rfl
    have e3 : brP wL f 0 0 x ↔ (wL oneA f 0 0 ≤ x.a ∧ max (wL (frontA f) f 0 0) (wL (rearA f) f 0 0) ≤ x.b * (f.rear - f.front)) := Iff.rfl
    have e4 : brP wH f 0 0 x ↔ (wH oneA f 0 0 ≤ x.a ∧ max (wH (frontA f) f 0 0) (wH (rearA f) f 0 0) ≤ x.b * (f.rear - f.front)) := Iff.rfl
    have e5 : bendP (setL f ys) x ↔ bendP f x := Iff.rfl
    have e6 : tl (setL f ys).high (setL f ys).loads = (ys.map (·.tlo)).foldl max f.high := rfl
    have e7 : th (setL f ys).high (setL f ys).loads = (ys.map (·.thi)).foldl max f.high := rfl
    have e8 : tl f.high f.loads = (f.loads.map (·.tlo)).foldl max f.high := rfl
    have e9 : th f.high f.loads = (f.loads.map (·.thi)).foldl max f.high := rfl
    unfold pV
    simp only [e1, e2, e3, e4, e5, e6, e7, e8, e9]
    generalize x.b * (f.rear - f.front) = q at *
    split
    · right; rfl
    · split
      · split
        · right; rw [if_pos (by omega)]
        · split
          · left; rfl
          · right; rw [if_neg (by omega), if_neg (by omega)]
      · split
        · right; rw [if_pos (by omega)]
        · split
          · left; rfl
          · right; rw [if_neg (by omega), if_neg (by omega)]
end Go.Proofs.Ytkjpceapflhmnaa
