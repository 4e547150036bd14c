/- Contracts of functions that the claim reaches: what each call gives, told in our own logic. Conditions: those of each theorem. -/
import Derived.Test.YtbbkeakbomngoaaG8
import Derived.Test.YtbbkeakbomngoaaG10
set_option linter.all false
set_option linter.unusedSimpArgs false
set_option linter.unusedVariables false
namespace Go.Proofs.Ytbbkeakbomngoaa
open Go.Av
set_option maxHeartbeats 8000000
set_option maxRecDepth 20000
/-! ### What a trace is -/
/-- The whole row of the bill i, of eight numbers. -/
def rowW (l : Lg) (i : Nat) : List Int := (tsN l i (rsN l i) l.fs.length).row
theorem elt_set {l : List Int} {k : Nat} {v : Int} (hk : k < l.length) (j : Nat) : elt (l.set k v) j = if j = k then v else elt l j := by
  unfold elt
  simp only [List.getD_eq_getElem?_getD, List.getElem?_set]
  by_cases e : k = j
  · subst e; simp [hk]
  · have : ¬ j = k := fun h => e h.symm
    simp [e, this]
/-- What a fund's turn leaves. -/
structure TsRow (l : Lg) (i k : Nat) (rs : List Int) (t : TS) : Prop where
  rs : ∀ f, elt t.rs f = elt rs f - elt t.row f
  zero : ∀ f, k ≤ f → elt t.row f = 0
  nn : ∀ f, 0 ≤ elt t.row f
  can : ∀ f, 0 < elt t.row f → f < k ∧ payB (fd l.fs f) (bl l.bs i) = true
  need : t.need = (bl l.bs i).amt - sumF (elt t.row) k
theorem TsRow.next {l : Lg} (hl : LgOk l) {i k : Nat} {rs : List Int} {t : TS} (hi : i < l.bs.length) (hk : k < l.fs.length) (ht : TsOk l i k t) (h : TsRow l i k rs t) : TsRow l i (k + 1) rs (t.step l i k) := by
  have hfn := hl.fn
  have hp := pow_bd l.bs.length (by have := hl.bn; omega)
  unfold TS.step
  cases hc : payB (fd l.fs k) (bl l.bs i)
  · simp only [Bool.false_eq_true, if_false]
    refine ⟨h.rs, fun f hf => h.zero f (by omega), h.nn, fun f hf => ⟨by have := (h.can f hf).1; omega, (h.can f hf).2⟩, ?_⟩
    show t.need = _ - (sumF (elt t.row) k + elt t.row k)
    rw [h.zero k (Nat.le_refl _), h.need]; omega
  · simp only [if_true]
    have h0 : 0 ≤ t.n l i k := (ht.n_nn hl hi hk (2 ^ l.bs.length) (Nat.le_refl _)).1
    generalize t.n l i k = n at *
    have er := elt_set (l := t.row) (k := k) (v := n) (by rw [ht.len]; omega)
    have es := elt_set (l := t.rs) (k := k) (v := t.rs.getD k 0 - n) (by rw [ht.rs.1]; omega)
    have ez := h.zero k (Nat.le_refl _)
    have ek := h.rs k
    have ed : t.rs.getD k 0 = elt t.rs k := rfl
    refine ⟨fun f => ?_, fun f hf => ?_, fun f => ?_, fun f hf => ?_, ?_⟩
    · show elt (t.rs.set k _) f = _ - elt (t.row.set k _) f
      rw [er, es]
      by_cases e : f = k
      · subst e; rw [if_pos rfl, if_pos rfl, ed]; omega
      · rw [if_neg e, if_neg e]; exact h.rs f
    · show elt (t.row.set k _) f = 0
      rw [er, if_neg (by omega)]; exact h.zero f (by omega)
    · show 0 ≤ elt (t.row.set k _) f
      rw [er]; split
      · exact h0
      · exact h.nn f
    · have hf' : 0 < elt (t.row.set k n) f := hf
      rw [er] at hf'
      by_cases e : f = k
      · subst e; exact ⟨by omega, hc⟩
      · rw [if_neg e] at hf'
        exact ⟨by have := (h.can f hf').1; omega, (h.can f hf').2⟩
    · show t.need - n = _ - (sumF (elt (t.row.set k n)) k + elt (t.row.set k n) k)
      rw [sumF_congr (F := elt (t.row.set k n)) (G := elt t.row) (n := k) (fun j hj => by rw [er, if_neg (by omega)]), er, if_pos rfl, h.need]
      omega
theorem tsN_row {l : Lg} (hl : LgOk l) {i : Nat} (hi : i < l.bs.length) {rs : List Int} (hr : RsOk rs) (ho : l.pr.ok i (rF rs)) : ∀ k, k ≤ l.fs.length → TsRow l i k rs (tsN l i rs k)
  | 0, _ => by
    have e : ∀ f, elt z8 f = 0 := fun f => by
      unfold elt z8
      rcases f with _ | _ | _ | _ | _ | _ | _ | _ | f <;> simp
    refine ⟨fun f => ?_, fun f _ => e f, fun f => ?_, fun f hf => ?_, ?_⟩
    · show elt rs f = elt rs f - elt z8 f
      rw [e]; omega
    · show 0 ≤ elt z8 f
      rw [e]; exact Int.le_refl _
    · have : 0 < elt z8 f := hf
      rw [e] at this; exact absurd this (Int.lt_irrefl _)
    · show (bl l.bs i).amt = _ - 0
      omega
  | k + 1, h => (tsN_row hl hi hr ho k (by omega)).next hl hi (by omega) (tsN_ok hl hi hr ho k (by omega))
section
variable {l : Lg} (hl : LgOk l) (hp : prf l = none)
include hl hp
theorem row_all {i : Nat} (hi : i < l.bs.length) : TsRow l i l.fs.length (rsN l i) (tsN l i (rsN l i) l.fs.length) := by
  obtain ⟨h1, h2⟩ := rsN_ok hl hp i (by omega)
  exact tsN_row hl hi h1 h2 l.fs.length (Nat.le_refl _)
theorem row_sum {i : Nat} (hi : i < l.bs.length) : sumF (elt (rowW l i)) l.fs.length = (bl l.bs i).amt := by
  obtain ⟨h1, h2⟩ := rsN_ok hl hp i (by omega)
  have h := (row_all hl hp hi).need
  have h3 := (tsN_ok hl hi h1 h2 l.fs.length (Nat.le_refl _)).inv.done hi
  unfold rowW
  omega
theorem rest_step {i : Nat} (hi : i < l.bs.length) (f : Nat) : elt (rsN l (i + 1)) f = elt (rsN l i) f - elt (rowW l i) f := (row_all hl hp hi).rs f
theorem row_nn {i : Nat} (hi : i < l.bs.length) (f : Nat) : 0 ≤ elt (rowW l i) f := (row_all hl hp hi).nn f
theorem row_can {i : Nat} (hi : i < l.bs.length) {f : Nat} (h : 0 < elt (rowW l i) f) : f < l.fs.length ∧ payB (fd l.fs f) (bl l.bs i) = true := (row_all hl hp hi).can f h
theorem rest_nn (i : Nat) (hi : i ≤ l.bs.length) (f : Nat) (hf : f < 8) : 0 ≤ elt (rsN l i) f := ((rsN_ok hl hp i hi).1.2 f hf).1
/-- What is left of the funds that can pay bills of a set, with what these bills got. -/
theorem has_down (U : Nat → Bool) : ∀ {m i : Nat}, i ≤ m → m ≤ l.bs.length → l.pr.has (rF (rsN l m)) U + sumF (fun j => if U j then (bl l.bs j).amt else 0) m ≤ l.pr.has (rF (rsN l i)) U + sumF (fun j => if U j then (bl l.bs j).amt else 0) i
  | 0, i, h, _ => by obtain rfl : i = 0 := by omega
                     exact Int.le_refl _
  | m + 1, i, h, hm => by
    by_cases e : i = m + 1
    · subst e; exact Int.le_refl _
    have ih := has_down U (m := m) (i := i) (by omega) (by omega)
    have hm' : m < l.bs.length := by omega
    have e1 : l.pr.has (rF (rsN l (m + 1))) U = l.pr.has (rF (rsN l m)) U - sumF (fun f => if l.pr.pay f U then elt (rowW l m) f else 0) l.fs.length := by
      unfold Pr.has
      have hh : l.pr.nF = l.fs.length := rfl
      rw [hh, ← sumF_sub]
      refine sumF_congr fun f _ => ?_
      have := rest_step hl hp hm' f
      have a : rF (rsN l (m + 1)) f = elt (rsN l (m + 1)) f := rfl
      have b : rF (rsN l m) f = elt (rsN l m) f := rfl
      rw [a, b, this]
      split <;> omega
    have e2 : (if U m = true then (bl l.bs m).amt else 0) ≤ sumF (fun f => if l.pr.pay f U then elt (rowW l m) f else 0) l.fs.length := by
      split
      · rename_i hU
        rw [← row_sum hl hp hm']
        refine sumF_mono fun f hf => ?_
        split
        · exact Int.le_refl _
        · rename_i hn
          have h0 := row_nn hl hp hm' f
          rcases Int.lt_or_eq_of_le h0 with hlt | heq
          · exact absurd (Pr.pay_iff.2 ⟨m, hm', hU, (row_can hl hp hm' hlt).2⟩) hn
          · omega
      · exact sumF_nn fun f _ => by
          have h0 := row_nn hl hp hm' f
          split <;> omega
    show _ + (sumF _ m + (if U m = true then (bl l.bs m).amt else 0)) ≤ _
    omega
theorem rest_le {f : Nat} : ∀ {m i : Nat}, i ≤ m → m ≤ l.bs.length → elt (rsN l m) f ≤ elt (rsN l i) f
  | 0, i, h, _ => by obtain rfl : i = 0 := by omega
                     exact Int.le_refl _
  | m + 1, i, h, hm => by
    by_cases e : i = m + 1
    · subst e; exact Int.le_refl _
    have ih := rest_le (f := f) (m := m) (i := i) (by omega) (by omega)
    have := rest_step hl hp (i := m) (by omega) f
    have h0 := row_nn hl hp (i := m) (by omega) f
    omega
end
/-- The rests within a bill go down. -/
theorem ts_mono {l : Lg} (hl : LgOk l) {i : Nat} (hi : i < l.bs.length) {rs : List Int} (hr : RsOk rs) (ho : l.pr.ok i (rF rs)) {k : Nat} : ∀ {m : Nat}, k ≤ m → m ≤ l.fs.length →
    (∀ f, f < k → elt (tsN l i rs m).row f = elt (tsN l i rs k).row f) ∧ (∀ f, elt (tsN l i rs m).rs f ≤ elt (tsN l i rs k).rs f) ∧ (tsN l i rs m).need ≤ (tsN l i rs k).need
  | 0, h, _ => by obtain rfl : k = 0 := by omega
                  exact ⟨fun _ _ => rfl, fun _ => Int.le_refl _, Int.le_refl _⟩
  | m + 1, h, hm => by
    by_cases e : k = m + 1
    · subst e; exact ⟨fun _ _ => rfl, fun _ => Int.le_refl _, Int.le_refl _⟩
    obtain ⟨a1, a2, a3⟩ := ts_mono hl hi hr ho (k := k) (m := m) (by omega) (by omega)
    have hok := tsN_ok hl hi hr ho m (by omega)
    have hp := pow_bd l.bs.length (by have := hl.bn; omega)
    have hfn := hl.fn
    have es : tsN l i rs (m + 1) = (tsN l i rs m).step l i m := rfl
    rw [es]
    unfold TS.step
    cases hc : payB (fd l.fs m) (bl l.bs i)
    · exact ⟨a1, a2, a3⟩
    · simp only [if_true]
      have h0 : 0 ≤ (tsN l i rs m).n l i m := (hok.n_nn hl hi (by omega) (2 ^ l.bs.length) (Nat.le_refl _)).1
      generalize (tsN l i rs m).n l i m = n at *
      refine ⟨fun f hf => ?_, fun f => ?_, by show (tsN l i rs m).need - n ≤ _; omega⟩
      · show elt ((tsN l i rs m).row.set m n) f = _
        rw [elt_set (by rw [hok.len]; omega), if_neg (by omega)]; exact a1 f hf
      · show elt ((tsN l i rs m).rs.set m _) f ≤ _
        rw [elt_set (by rw [hok.rs.1]; omega)]
        have := a2 f
        split
        · rename_i e; subst e
          have ed : (tsN l i rs f).rs.getD f 0 = elt (tsN l i rs f).rs f := rfl
          omega
        · exact this
/-- **ONE COIN IS NOT MOVED AHEAD.** -/
theorem greedy {l : Lg} (hl : LgOk l) (hp : prf l = none) {i f g : Nat} (hi : i < l.bs.length) (hf : f < g) (hg : g < l.fs.length) (h1 : 0 < elt (rowW l i) g) (h2 : 0 < elt (rsN l l.bs.length) f) (h3 : payB (fd l.fs f) (bl l.bs i) = true) : False := by
  have hfn := hl.fn
  have hbn := hl.bn
  obtain ⟨r1, r2⟩ := rsN_ok hl hp i (by omega)
  have hok := tsN_ok hl hi r1 r2 f (by omega)
  have hpw := pow_bd l.bs.length (by omega)
  have hes : tsN l i (rsN l i) (f + 1) = ⟨(tsN l i (rsN l i) f).rs.set f ((tsN l i (rsN l i) f).rs.getD f 0 - (tsN l i (rsN l i) f).n l i f), (tsN l i (rsN l i) f).need - (tsN l i (rsN l i) f).n l i f, (tsN l i (rsN l i) f).row.set f ((tsN l i (rsN l i) f).n l i f)⟩ := by
    show (tsN l i (rsN l i) f).step l i f = _
    unfold TS.step; rw [h3]; rfl
  have hor := minS_or l (tsN l i (rsN l i) f).rs i f (min (tsN l i (rsN l i) f).need ((tsN l i (rsN l i) f).rs.getD f 0)) (2 ^ l.bs.length)
  have hn : minS l (tsN l i (rsN l i) f).rs i f (min (tsN l i (rsN l i) f).need ((tsN l i (rsN l i) f).rs.getD f 0)) (2 ^ l.bs.length) = (tsN l i (rsN l i) f).n l i f := rfl
  rw [hn] at hor
  -- the next fund's state
  obtain ⟨m1, m2, m3⟩ := ts_mono hl hi r1 r2 (k := f + 1) (m := l.fs.length) (by omega) (Nat.le_refl _)
  have hend : ∀ x, elt (rsN l l.bs.length) x ≤ elt (tsN l i (rsN l i) (f + 1)).rs x := fun x => by
    have a := rest_le hl hp (f := x) (m := l.bs.length) (i := i + 1) (by omega) (Nat.le_refl _)
    have b : rsN l (i + 1) = (tsN l i (rsN l i) l.fs.length).rs := rfl
    rw [b] at a
    have := m2 x
    omega
  have hneed : 0 < (tsN l i (rsN l i) (f + 1)).need := by
    -- the later fund g gives at most what is needed
    have q1 := tsN_row hl hi r1 r2 (f + 1) (by omega)
    have q2 := tsN_row hl hi r1 r2 l.fs.length (Nat.le_refl _)
    have q3 := row_sum hl hp hi
    have q4 : sumF (elt (tsN l i (rsN l i) l.fs.length).row) (f + 1) = sumF (elt (tsN l i (rsN l i) (f + 1)).row) (f + 1) := sumF_congr fun x hx => m1 x hx
    have q5 : ∀ m, f + 1 ≤ m → m ≤ l.fs.length → sumF (elt (rowW l i)) (f + 1) + (if g < m then elt (rowW l i) g else 0) ≤ sumF (elt (rowW l i)) m := by
      intro m
      induction m with
      | zero => intro h _; omega
      | succ m ih =>
        intro h5 h6
        by_cases e : f + 1 = m + 1
        · obtain rfl : f = m := by omega
          rw [if_neg (by omega)]; omega
        · have := ih (by omega) (by omega)
          have h0 := row_nn hl hp hi m
          show _ ≤ sumF (elt (rowW l i)) m + elt (rowW l i) m
          by_cases e2 : g = m
          · subst e2
            rw [if_neg (by omega)] at this
            rw [if_pos (by omega)]; omega
          · by_cases e3 : g < m
            · rw [if_pos e3] at this; rw [if_pos (by omega)]; omega
            · rw [if_neg e3] at this; rw [if_neg (by omega)]; omega
    have q6 := q5 l.fs.length (by omega) (Nat.le_refl _)
    rw [if_pos hg] at q6
    have q7 := q1.need
    have q8 : sumF (elt (rowW l i)) (f + 1) = sumF (elt (tsN l i (rsN l i) (f + 1)).row) (f + 1) := q4
    omega
  rw [hes] at hneed
  have hneed' : 0 < (tsN l i (rsN l i) f).need - (tsN l i (rsN l i) f).n l i f := hneed
  have hgive : elt (tsN l i (rsN l i) (f + 1)).rs f = (tsN l i (rsN l i) f).rs.getD f 0 - (tsN l i (rsN l i) f).n l i f := by
    rw [hes]
    show elt ((tsN l i (rsN l i) f).rs.set f _) f = _
    rw [elt_set (by rw [hok.rs.1]; omega), if_pos rfl]
  have hf0 := hend f
  rw [hgive] at hf0
  rcases hor with e | ⟨s, s1, s2, s3⟩
  · omega
  · -- a set that is tight
    have sk : mskB i ((s : Nat) : Int) = false ∧ payerB l f ((s : Nat) : Int) = true := by
      unfold skipB at s2
      cases hm : mskB i ((s : Nat) : Int) <;> cases hq : payerB l f ((s : Nat) : Int) <;> rw [hm, hq] at s2 <;> simp at s2 ⊢
    have hbits := (msk_false (by omega) (by omega)).1 sk.1
    have hpay : l.pr.pay f (bitS ((s : Nat) : Int)) = true := sk.2
    have hz : sumF (fun j => if bitS ((s : Nat) : Int) j then (bl l.bs j).amt else 0) (i + 1) = 0 := sumF_zero fun j hj => by
      have : bitS ((s : Nat) : Int) j = false := by
        cases hx : bitS ((s : Nat) : Int) j
        · rfl
        · have := hbits j hx (by omega); omega
      rw [this]; rfl
    have hd := has_down hl hp (bitS ((s : Nat) : Int)) (m := l.bs.length) (i := i + 1) (by omega) (Nat.le_refl _)
    rw [hz] at hd
    have hdue : sumF (fun j => if bitS ((s : Nat) : Int) j then (bl l.bs j).amt else 0) l.bs.length = l.pr.due (bitS ((s : Nat) : Int)) := rfl
    rw [hdue] at hd
    have hsl : slackB l (tsN l i (rsN l i) f).rs ((s : Nat) : Int) = l.pr.has (rF (tsN l i (rsN l i) f).rs) (bitS ((s : Nat) : Int)) - l.pr.due (bitS ((s : Nat) : Int)) := rfl
    -- after the fund's gift
    have hh : l.pr.has (rF (rsN l (i + 1))) (bitS ((s : Nat) : Int)) ≤ l.pr.has (rF (tsN l i (rsN l i) f).rs) (bitS ((s : Nat) : Int)) - (tsN l i (rsN l i) f).n l i f := by
      have a1 : l.pr.has (rF (tsN l i (rsN l i) (f + 1)).rs) (bitS ((s : Nat) : Int)) = l.pr.has (rF (tsN l i (rsN l i) f).rs) (bitS ((s : Nat) : Int)) - (tsN l i (rsN l i) f).n l i f := by
        unfold Pr.has
        have := sumF_one (F := fun x => if l.pr.pay x (bitS ((s : Nat) : Int)) then rF (tsN l i (rsN l i) (f + 1)).rs x else 0) (G := fun x => if l.pr.pay x (bitS ((s : Nat) : Int)) then rF (tsN l i (rsN l i) f).rs x else 0) (n := l.pr.nF) (k := f) (by show f < l.fs.length; omega) (fun x _ hx => by
          have : rF (tsN l i (rsN l i) (f + 1)).rs x = rF (tsN l i (rsN l i) f).rs x := by
            rw [hes]
            show elt ((tsN l i (rsN l i) f).rs.set f _) x = elt (tsN l i (rsN l i) f).rs x
            rw [elt_set (by rw [hok.rs.1]; omega), if_neg hx]
          rw [this])
        rw [this, hpay]
        have e1 : rF (tsN l i (rsN l i) (f + 1)).rs f = elt (tsN l i (rsN l i) (f + 1)).rs f := rfl
        have e2 : rF (tsN l i (rsN l i) f).rs f = (tsN l i (rsN l i) f).rs.getD f 0 := rfl
        simp only [if_true]
        rw [e1, e2, hgive]; omega
      rw [← a1]
      unfold Pr.has
      refine sumF_mono fun x _ => ?_
      have := m2 x
      have b : rF (rsN l (i + 1)) x = elt (tsN l i (rsN l i) l.fs.length).rs x := rfl
      have b2 : rF (tsN l i (rsN l i) (f + 1)).rs x = elt (tsN l i (rsN l i) (f + 1)).rs x := rfl
      rw [b, b2]
      split <;> omega
    -- so nothing is left of f
    have hlast : rF (rsN l l.bs.length) f ≤ l.pr.has (rF (rsN l l.bs.length)) (bitS ((s : Nat) : Int)) := by
      have := sumF_term (F := fun x => if l.pr.pay x (bitS ((s : Nat) : Int)) then rF (rsN l l.bs.length) x else 0) (n := l.pr.nF) (k := f) (by show f < l.fs.length; omega) (fun x hx => by
        have hx' : x < l.fs.length := hx
        have := rest_nn hl hp l.bs.length (Nat.le_refl _) x (by omega)
        have e : rF (rsN l l.bs.length) x = elt (rsN l l.bs.length) x := rfl
        rw [e]
        split <;> omega)
      rw [hpay] at this
      simp only [if_true] at this
      exact this
    have e : rF (rsN l l.bs.length) f = elt (rsN l l.bs.length) f := rfl
    omega
end Go.Proofs.Ytbbkeakbomngoaa
