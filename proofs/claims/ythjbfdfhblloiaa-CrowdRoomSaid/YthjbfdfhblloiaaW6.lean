/- Contracts of functions that the claim reaches: what each call gives, told in our own logic. Conditions: those of each theorem. -/
import Derived.Test.YthjbfdfhblloiaaQ33
import Derived.Test.YthjbfdfhblloiaaW6a
set_option linter.all false
set_option linter.unusedSimpArgs false
set_option linter.unusedVariables false
namespace Go.Proofs.Ythjbfdfhblloiaa
open Go.Av
set_option maxRecDepth 20000
/-! ### Towns that know more, plain -/
structure GpLe (a b : Gp) : Prop where
  stay : a.stay = b.stay
  first : a.first = b.first
  path : a.path = b.path
  lo : b.lo ≤ a.lo
  lh : a.lo ≤ a.hi
  hi : a.hi ≤ b.hi
  alo : b.alo ≤ a.alo
  mid : a.alo ≤ a.ahi
  ahi : a.ahi ≤ b.ahi
structure TwLe (u t : Tw) : Prop where
  sts : u.sts = t.sts
  steps : u.steps = t.steps
  rl : u.rooms.length = t.rooms.length
  room : ∀ i, i < t.rooms.length → elt t.rooms i ≤ elt u.rooms i
  gl : u.gs.length = t.gs.length
  g : ∀ i, i < t.gs.length → GpLe (gp u.gs i) (gp t.gs i)
theorem wlk_congr {u t : Tw} (h : u.sts = t.sts) (s : Nat → Int) : ∀ (p : List Int) (k : Nat) (q : Int), wlk u s p k q = wlk t s p k q
  | [], _, _ => rfl
  | _ :: _, 0, _ => rfl
  | p :: ps, k + 1, q => by
    show (if s p.toNat = 0 then -2 else if s p.toNat = 2 then q else wlk u s ps k (oth (sx u.sts p.toNat) q)) = (if s p.toNat = 0 then -2 else if s p.toNat = 2 then q else wlk t s ps k (oth (sx t.sts p.toNat) q))
    rw [wlk_congr h s ps k, h]
theorem plc_congr {u t : Tw} (h : u.sts = t.sts) (s : Nat → Int) {a b : Gp} (k : GpLe a b) (c st : Int) : plc u s a c st = plc t s b c st := by
  unfold plc; rw [wlk_congr h, k.stay, k.first, k.path]
theorem TwLe.ldHi {u t : Tw} (h : TwLe u t) (h0 : ∀ i, i < t.gs.length → 0 ≤ (gp t.gs i).hi) (s : Nat → Int) (q st : Int) : Go.Proofs.Ythjbfdfhblloiaa.ldHi u s q st ≤ Go.Proofs.Ythjbfdfhblloiaa.ldHi t s q st := by
  unfold Go.Proofs.Ythjbfdfhblloiaa.ldHi
  rw [h.gl]
  refine sumF_le fun i hi => ?_
  have k := h.g i hi
  unfold hiF
  by_cases e : someB u s (gp u.gs i) q st = true
  · obtain ⟨c, h1, h2, h3⟩ := someB_iff.1 e
    have e2 : someB t s (gp t.gs i) q st = true := someB_iff.2 ⟨c, by have := k.alo; omega, by have := k.ahi; omega, by rw [← plc_congr h.sts s k]; exact h3⟩
    rw [if_pos e, if_pos e2]; exact k.hi
  · rw [if_neg e]
    split
    · exact h0 i hi
    · exact Int.le_refl _
theorem TwLe.ldLo {u t : Tw} (h : TwLe u t) (h0 : ∀ i, i < t.gs.length → 0 ≤ (gp t.gs i).lo) (s : Nat → Int) (q st : Int) : Go.Proofs.Ythjbfdfhblloiaa.ldLo t s q st ≤ Go.Proofs.Ythjbfdfhblloiaa.ldLo u s q st := by
  unfold Go.Proofs.Ythjbfdfhblloiaa.ldLo
  rw [h.gl]
  refine sumF_le fun i hi => ?_
  have k := h.g i hi
  have h00 := h0 i hi
  have hl := k.lo
  unfold loF
  by_cases e : allB t s (gp t.gs i) q st = true
  · have e2 : allB u s (gp u.gs i) q st = true := allB_iff.2 fun c h1 h2 => by
      rw [plc_congr h.sts s k]
      exact allB_iff.1 e c (by have := k.alo; omega) (by have := k.ahi; omega)
    rw [if_pos e, if_pos e2]; exact k.lo
  · rw [if_neg e]
    split <;> omega
theorem catN_nil {α : Type} {g : Nat → List α} : ∀ {n : Nat}, catN g n = [] ↔ ∀ i, i < n → g i = []
  | 0 => ⟨fun _ i hi => absurd hi (Nat.not_lt_zero _), fun _ => rfl⟩
  | n + 1 => by
    show catN g n ++ g n = [] ↔ _
    rw [List.append_eq_nil_iff, catN_nil]
    constructor
    · rintro ⟨h1, h2⟩ i hi
      by_cases e : i = n
      · rw [e]; exact h2
      · exact h1 i (by omega)
    · intro h
      exact ⟨fun i hi => h i (by omega), h n (by omega)⟩
theorem mem_catN {α : Type} {g : Nat → List α} {x : α} : ∀ {n : Nat}, x ∈ catN g n ↔ ∃ i, i < n ∧ x ∈ g i
  | 0 => ⟨fun h => (by cases h), fun ⟨i, hi, _⟩ => absurd hi (Nat.not_lt_zero _)⟩
  | n + 1 => by
    show x ∈ catN g n ++ g n ↔ _
    rw [List.mem_append, mem_catN]
    constructor
    · rintro (⟨i, h1, h2⟩ | h)
      · exact ⟨i, by omega, h2⟩
      · exact ⟨n, by omega, h⟩
    · rintro ⟨i, h1, h2⟩
      by_cases e : i = n
      · rw [e] at h2; exact .inr h2
      · exact .inl ⟨i, by omega, h2⟩
theorem okB_iff {t : Tw} {l : List Int} : okB t l = true ↔ ∀ st q : Nat, st < (t.steps + 1).toNat → q < t.rooms.length → Go.Proofs.Ythjbfdfhblloiaa.ldHi t (cls l) (q : Nat) (st : Nat) ≤ elt t.rooms q := by
  unfold okB
  rw [List.isEmpty_iff]
  unfold crL
  rw [catN_nil]
  constructor
  · intro h st q h1 h2
    have := catN_nil.1 (h st h1) q h2
    unfold crF at this
    by_cases e : elt t.rooms q < Go.Proofs.Ythjbfdfhblloiaa.ldHi t (cls l) (q : Nat) (st : Nat)
    · rw [if_pos e] at this; cases this
    · omega
  · intro h st h1
    refine catN_nil.2 fun q h2 => ?_
    unfold crF
    rw [if_neg (by have := h st q h1 h2; omega)]
theorem TwLe.okB {u t : Tw} (h : TwLe u t) (h0 : ∀ i, i < t.gs.length → 0 ≤ (gp t.gs i).hi) {l : List Int} (k : Go.Proofs.Ythjbfdfhblloiaa.okB t l = true) : Go.Proofs.Ythjbfdfhblloiaa.okB u l = true := by
  rw [okB_iff] at k ⊢
  intro st q h1 h2
  rw [h.steps] at h1; rw [h.rl] at h2
  have e1 := k st q h1 h2
  have e2 := h.ldHi h0 (cls l) (q : Nat) (st : Nat)
  have e3 := h.room q h2
  omega
theorem TwLe.clo {u t : Tw} (h : TwLe u t) (h0 : ∀ i, i < t.gs.length → 0 ≤ (gp t.gs i).hi) {A : List Int} (k : Go.Proofs.Ythjbfdfhblloiaa.clo t t.sts.length = some A) : ∃ B, Go.Proofs.Ythjbfdfhblloiaa.clo u u.sts.length = some B ∧ B.length ≤ A.length := by
  rw [h.sts]
  unfold Go.Proofs.Ythjbfdfhblloiaa.clo chsAll at *
  rw [h.sts, Nat.min_self]
  rw [Nat.min_self] at k
  obtain ⟨m, hm, hA⟩ := mem_catN.1 (List.mem_of_find?_eq_some k)
  have hAl := (chs_ok (t := t) m 0 A hA).1
  have hp : (crL u (cls A)).isEmpty = true := h.okB h0 (l := A) (List.find?_some k)
  have hin : A ∈ catN (fun m => chs t.sts.length m 0) (m + 1) := mem_catN.2 ⟨m, by omega, hA⟩
  cases e : (catN (fun m => chs t.sts.length m 0) (m + 1)).find? fun l => (crL u (cls l)).isEmpty with
  | none => exact absurd hp (by rw [List.find?_eq_none] at e; exact e A hin)
  | some B =>
    refine ⟨B, catN_fpre e (by omega), ?_⟩
    obtain ⟨j, hj, hB⟩ := mem_catN.1 (List.mem_of_find?_eq_some e)
    have := (chs_ok (t := t) j 0 B hB).1
    omega
theorem TwLe.ok {u t : Tw} (h : TwLe u t) (hT : TwOk t) (hr : ∀ i, i < t.rooms.length → elt u.rooms i ≤ 1000000) : TwOk u := by
  have e1 := h.rl
  refine ⟨by rw [e1]; exact hT.r0, by rw [e1]; exact hT.rn, fun i hi => ?_, by rw [h.sts]; exact hT.sn, fun i hi => ?_, by rw [h.steps]; exact hT.steps, by rw [h.gl]; exact hT.gn, fun i hi => ?_⟩
  · rw [e1] at hi
    have a := hT.room i hi; have b := h.room i hi; have c := hr i hi
    omega
  · rw [h.sts] at hi
    have := hT.st i hi
    rw [h.sts, e1]; exact this
  · rw [h.gl] at hi
    have k := h.g i hi
    have a := hT.g i hi
    have a1 := a.size; have a2 := a.at_; have k1 := k.lo; have k2 := k.hi; have k3 := k.alo; have k4 := k.ahi; have k5 := k.lh; have k6 := k.mid
    refine ⟨by omega, by omega, by rw [k.stay]; exact a.stay, by rw [k.first, e1]; exact a.first, by rw [k.path]; exact a.many, fun j hj => ?_, fun j hj => ?_⟩
    · rw [k.path] at hj ⊢; rw [h.sts]; exact a.st j hj
    · rw [k.path] at hj ⊢; rw [k.first, wayN_congr h.sts]; exact a.way j hj
theorem TwLe.refl {t : Tw} (hT : TwOk t) : TwLe t t :=
  ⟨rfl, rfl, rfl, fun _ _ => Int.le_refl _, rfl, fun i hi => by
    have a := hT.g i hi
    have a1 := a.size; have a2 := a.at_
    exact ⟨rfl, rfl, rfl, Int.le_refl _, a1.2.1, Int.le_refl _, Int.le_refl _, a2.2.1, Int.le_refl _⟩⟩
end Go.Proofs.Ythjbfdfhblloiaa
