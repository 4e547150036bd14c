/- Contracts of functions that the claim reaches: what each call gives, told in our own logic. Conditions: those of each theorem. -/
import Derived.Test.YthjbfdfhblloiaaQ11
set_option linter.all false
set_option linter.unusedSimpArgs false
set_option linter.unusedVariables false
namespace Go.Proofs.Ythjbfdfhblloiaa
open Go.Av
set_option maxRecDepth 20000
theorem spanE_ok {lo hi m : Int} (h : 0 ≤ lo ∧ lo ≤ hi ∧ hi ≤ m) : spanE lo hi m = 0:=by
  unfold spanE;rw [if_neg (by omega),if_neg (by omega)]
theorem grpE_ok {t : Tw} {g : Gp} (h : GpOk t g) : grpE t g = 0:=by
  have h1:=h.stay;have h2:=h.first;have h3:=h.many
  unfold grpE
  rw [spanE_ok h.size,spanE_ok h.at_,if_neg (by simp),if_neg (by simp),if_neg (by omega),if_neg (by omega),if_neg (by omega)]
  refine errN_all fun i hi => ?_
  have a:=h.st i hi
  have b:=h.way (i + 1) (by omega)
  unfold pathF
  rw [if_neg (by omega),if_neg (by omega)]
theorem allIn_of {lo hi : Int} : ∀ {l : List Int},(∀ i,i < l.length → lo ≤ elt l i ∧ elt l i ≤ hi) → allIn lo hi l = true
  | [],_ => rfl
  | x :: l,h => by
    have h0:=h 0 (by simp)
    have ih:=allIn_of (l:=l) fun i hi => by have:=h (i + 1) (by simpa using hi);simpa [elt] using this
    have e : elt (x :: l) 0 = x:=rfl
    rw [e] at h0
    show (decide (lo ≤ x ∧ x ≤ hi) && allIn lo hi l) = true
    rw [ih,decide_eq_true h0];rfl
theorem chkE_ok {t : Tw} (h : TwOk t) : chkE t = 0:=by
  have h1:=h.r0;have h2:=h.rn;have h3:=h.sn;have h4:=h.steps;have h5:=h.gn
  have e1 : errN (stE t) t.sts.length = 0:=errN_all fun i hi => by
    have a:=h.st i hi
    unfold stE;rw [if_neg (by omega),if_neg (by omega)]
  unfold chkE
  rw [if_neg (by omega),if_neg (by omega),allIn_of h.room,if_neg (by simp),if_neg (by omega),e1,if_neg (by simp),if_neg (by omega),if_neg (by omega)]
  exact errN_all fun i hi => grpE_ok (h.g i hi)
theorem wayN_congr {t u : Tw} (h : t.sts = u.sts) (p : List Int) (q : Int) : ∀ i,wayN t p q i = wayN u p q i
  | 0 => rfl
  | i + 1 => by show oth (sx t.sts _) (wayN t p q i) = _;rw [wayN_congr h p q i,h];rfl
theorem GpOk.congr {t u : Tw} {g : Gp} (h : GpOk t g) (h1 : t.rooms = u.rooms) (h2 : t.sts = u.sts) : GpOk u g :=
  ⟨h.size,h.at_,h.stay,by rw [← h1];exact h.first,h.many,by rw [← h2];exact h.st,fun i hi => by rw [← wayN_congr h2];exact h.way i hi⟩
theorem elt_app {l : List Int} {r : Int} {i : Nat} (h : i < l.length) : elt (l ++ [r]) i = elt l i:=by
  unfold elt;simp only [List.getD_eq_getElem?_getD];rw [List.getElem?_append_left h]
theorem elt_last {l : List Int} {r : Int} : elt (l ++ [r]) l.length = r:=by
  unfold elt;simp only [List.getD_eq_getElem?_getD];simp
theorem wayN_app {t : Tw} {p : List Int} {q r : Int} : ∀ i,i ≤ p.length → wayN t (p ++ [r]) q i = wayN t p q i
  | 0,_ => rfl
  | i + 1,h => by
    show oth (sx t.sts (elt (p ++ [r]) i).toNat) (wayN t (p ++ [r]) q i) = oth (sx t.sts (elt p i).toNat) (wayN t p q i)
    rw [elt_app (by omega),wayN_app i (by omega)]
structure PtOk (t : Tw) (q : Int) (p : List Int) : Prop where
  st : ∀ i,i < p.length → 0 ≤ elt p i ∧ elt p i < t.sts.length
  way : ∀ i,i ≤ p.length → 0 ≤ wayN t p q i
theorem PtOk.add {t : Tw} {q : Int} {p : List Int} {r : Int} (h : PtOk t q p) (hr : 0 ≤ r ∧ r < t.sts.length) (hw : 0 ≤ oth (sx t.sts r.toNat) (wayN t p q p.length)) : PtOk t q (p ++ [r]) ∧ wayN t (p ++ [r]) q (p ++ [r]).length = oth (sx t.sts r.toNat) (wayN t p q p.length):=by
  have hl : (p ++ [r]).length = p.length + 1:=by simp
  have e : wayN t (p ++ [r]) q (p.length + 1) = oth (sx t.sts r.toNat) (wayN t p q p.length):=by
    show oth (sx t.sts (elt (p ++ [r]) p.length).toNat) (wayN t (p ++ [r]) q p.length) = _
    rw [elt_last,wayN_app _ (Nat.le_refl _)]
  refine ⟨⟨fun i hi => ?_,fun i hi => ?_⟩,by rw [hl];exact e⟩
  · by_cases c : i < p.length
    · rw [elt_app c];exact h.st i c
    · obtain rfl : i = p.length:=by omega
      rw [elt_last];exact hr
  · by_cases c : i ≤ p.length
    · rw [wayN_app i c];exact h.way i c
    · obtain rfl : i = p.length + 1:=by omega
      rw [e];exact hw
structure GpGood (t : Tw) (g : Gp) : Prop where
  size : 0 ≤ g.lo ∧ g.lo ≤ g.hi ∧ g.hi ≤ 90
  at_ : 0 ≤ g.alo ∧ g.alo ≤ g.ahi ∧ g.ahi ≤ 4
  stay : 1 ≤ g.stay ∧ g.stay ≤ 4
  first : 0 ≤ g.first ∧ g.first < t.rooms.length
  many : g.path.length ≤ 4
  pt : PtOk t g.first g.path
structure TwGood (t : Tw) (SQ ST GR : Int) : Prop where
  r0 : 0 < t.rooms.length
  rn : (t.rooms.length : Int) ≤ SQ
  room : ∀ x ∈ t.rooms,0 ≤ x ∧ x ≤ 500
  sn : (t.sts.length : Int) ≤ ST
  st : ∀ x ∈ t.sts,0 ≤ x.a ∧ x.a < t.rooms.length ∧ 0 ≤ x.b ∧ x.b < t.rooms.length ∧ x.a ≠ x.b
  steps : 0 ≤ t.steps ∧ t.steps ≤ 10
  gn : (t.gs.length : Int) ≤ GR
  g : ∀ x ∈ t.gs,GpGood t x
theorem TwGood.ok {t : Tw} {SQ ST GR : Int} (h : TwGood t SQ ST GR) (h1 : SQ ≤ 12) (h2 : ST ≤ 12) (h3 : GR ≤ 12) : TwOk t:=by
  have a:=h.rn;have b:=h.sn;have c:=h.gn;have d:=h.steps
  refine ⟨h.r0,by omega,fun i hi => ?_,by omega,fun i hi => h.st _ (sx_mem hi),by omega,by omega,fun i hi => ?_⟩
  · have:=h.room _ (elt_mem hi);omega
  · have k:=h.g _ (gp_mem hi)
    have k1:=k.size;have k2:=k.at_;have k3:=k.stay;have k4:=k.many
    exact ⟨by omega,by omega,by omega,k.first,by omega,k.pt.st,k.pt.way⟩
structure ClOk (t : Tw) (c : List Int) (j : Nat) : Prop where
  len : c.length ≤ j
  bd : ∀ i,i < c.length → 0 ≤ elt c i ∧ elt c i < j
  up : ∀ i,0 < i → i < c.length → elt c (i - 1) < elt c i
theorem ClOk.mono {t : Tw} {c : List Int} {j k : Nat} (h : ClOk t c j) (hk : j ≤ k) : ClOk t c k:=⟨by have:=h.len;omega,fun i hi => by have:=h.bd i hi;omega,h.up⟩
theorem ClOk.add {t : Tw} {c : List Int} {j : Nat} (h : ClOk t c j) : ClOk t (c ++ [((j : Nat) : Int)]) (j + 1):=by
  have hl:=h.len
  have hl1 : (c ++ [((j : Nat) : Int)]).length = c.length + 1:=by simp
  refine ⟨by omega,fun i hi => ?_,fun i h0 hi => ?_⟩
  · by_cases q : i < c.length
    · rw [elt_app q];have:=h.bd i q;omega
    · obtain rfl : i = c.length:=by omega
      rw [elt_last];omega
  · by_cases q : i < c.length
    · rw [elt_app q,elt_app (by omega)];exact h.up i h0 q
    · obtain rfl : i = c.length:=by omega
      rw [elt_last,elt_app (by omega)];exact (h.bd _ (by omega)).2
theorem ClOk.cloE {t : Tw} {c : List Int} (h : ClOk t c t.sts.length) (hT : chkE t = 0) : cloE t c = 0:=by
  unfold Go.Proofs.Ythjbfdfhblloiaa.cloE
  rw [if_neg (fun e => e hT)]
  refine errN_all fun i hi => ?_
  have a:=h.bd i hi
  unfold cloF
  rw [if_neg (by omega),if_neg]
  rintro ⟨h0,h1⟩
  have:=h.up i h0 hi
  omega
end Go.Proofs.Ythjbfdfhblloiaa
