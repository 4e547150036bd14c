/- Contracts of functions that the claim reaches: what each call gives, told in our own logic. Conditions: those of each theorem. -/
import Derived.Test.YtbbkeakbomngoaaP3
import Derived.Test.YtbbkeakbomngoaaGR
import Derived.Test.YtbbkeakbomngoaaG17
set_option linter.all false
set_option linter.unusedSimpArgs false
set_option linter.unusedVariables false
namespace Go.Proofs.Ytbbkeakbomngoaa
open Go.Av
set_option maxRecDepth 20000
/-! ### What is left of the funds, as funds -/
def restF (l : Lg) (rs : List Int) : List Fd := (List.range l.fs.length).map fun k => ⟨(fd l.fs k).day, (fd l.fs k).till, rs.getD k 0, (fd l.fs k).uses⟩
theorem restF_len (l : Lg) (rs : List Int) : (restF l rs).length = l.fs.length := by simp [restF]
theorem fd_restF {l : Lg} {rs : List Int} {k : Nat} (h : k < l.fs.length) : fd (restF l rs) k = ⟨(fd l.fs k).day, (fd l.fs k).till, rs.getD k 0, (fd l.fs k).uses⟩ := by
  have e : (restF l rs)[k]? = some ⟨(fd l.fs k).day, (fd l.fs k).till, rs.getD k 0, (fd l.fs k).uses⟩ := by
    unfold restF; rw [List.getElem?_map, List.getElem?_range h]; rfl
  show (restF l rs).getD k _ = _
  rw [List.getD_eq_getElem?_getD, e]; rfl
theorem fd_ext {a b : List Fd} (hl : a.length = b.length) (h : ∀ k, k < a.length → fd a k = fd b k) : a = b := by
  refine List.ext_getElem hl fun k h1 h2 => ?_
  have := h k h1
  unfold fd at this
  rw [List.getD_eq_getElem?_getD, List.getD_eq_getElem?_getD, List.getElem?_eq_getElem h1, List.getElem?_eq_getElem h2] at this
  exact this
theorem restF_amts {l : Lg} (hn : l.fs.length ≤ 8) : restF l (amts l.fs) = l.fs := by
  refine fd_ext (restF_len _ _) fun k hk => ?_
  rw [restF_len] at hk
  rw [fd_restF hk, amts_get (by omega)]
theorem restF_set {l : Lg} {rs : List Int} {k : Nat} (hk : k < l.fs.length) (hr : k < rs.length) (v : Int) :
    (restF l rs).set k ⟨(fd l.fs k).day, (fd l.fs k).till, v, (fd l.fs k).uses⟩ = restF l (rs.set k v) := by
  refine fd_ext (by rw [List.length_set, restF_len, restF_len]) fun j hj => ?_
  rw [List.length_set, restF_len] at hj
  rw [fd_restF hj]
  have e := elt_set (l := rs) (v := v) hr j
  unfold elt at e
  rw [e]
  unfold fd at *
  rw [List.getD_eq_getElem?_getD, List.getElem?_set]
  by_cases c : k = j
  · subst c
    rw [if_pos rfl, if_pos (by rw [restF_len]; exact hk), if_pos rfl]; rfl
  · rw [if_neg c, if_neg (fun h => c h.symm), ← List.getD_eq_getElem?_getD]
    exact fd_restF hj
theorem restOk {l : Lg} {rs : List Int} (hl : LgOk l) (hr : RsOk rs) : LgOk ⟨restF l rs, l.bs⟩ := by
  have hn := hl.fn
  refine ⟨by show (restF l rs).length ≤ 8; rw [restF_len]; exact hl.fn, hl.bn, fun x hx => ?_, hl.b⟩
  obtain ⟨k, hk, rfl⟩ := List.mem_iff_getElem.1 hx
  have hk' : k < l.fs.length := by rw [restF_len] at hk; exact hk
  have e : (restF l rs)[k] = fd (restF l rs) k := by unfold fd; rw [List.getD_eq_getElem?_getD, List.getElem?_eq_getElem hk]; rfl
  rw [e, fd_restF hk']
  have h := hl.f _ (fd_mem hk')
  exact ⟨h.day, h.ord, hr.2 k (by omega), h.many, h.uses⟩
theorem pay_rest {l : Lg} {rs : List Int} {k : Nat} (hk : k < l.fs.length) (s : Int) : payerB ⟨restF l rs, l.bs⟩ k s = payerB l k s := by
  unfold payerB
  show (List.range l.bs.length).any (fun i => hasB s i && payB (fd (restF l rs) k) (bl l.bs i)) = _
  rw [fd_restF hk]
  rfl
theorem slack_rest {l : Lg} {rs : List Int} (hn : l.fs.length ≤ 8) (s : Int) : slackB ⟨restF l rs, l.bs⟩ (amts (restF l rs)) s = slackB l rs s := by
  have h1 : sumF (givF ⟨restF l rs, l.bs⟩ (amts (restF l rs)) s) (restF l rs).length = sumF (givF l rs s) l.fs.length := by
    rw [restF_len]
    refine sumF_congr fun k hk => ?_
    unfold givF
    rw [pay_rest hk, amts_get (by omega), fd_restF hk]
  show sumF (givF ⟨restF l rs, l.bs⟩ (amts (restF l rs)) s) (restF l rs).length - dueB l s = _
  rw [h1]; rfl
/-! ### The least of what later bills can do without, over multiples alone -/
def minR (l : Lg) (rs : List Int) (q k : Nat) (n0 : Int) : Nat → Int
  | 0 => n0
  | j + 1 => if payerB l k ((j * q : Nat) : Int) then min (minR l rs q k n0 j) (slackB l rs ((j * q : Nat) : Int)) else minR l rs q k n0 j
theorem minR_le (l : Lg) (rs : List Int) (q k : Nat) (n0 : Int) : ∀ N, minR l rs q k n0 N ≤ n0
  | 0 => Int.le_refl _
  | N + 1 => by
    have := minR_le l rs q k n0 N
    unfold minR
    split <;> omega
theorem minR_sl (l : Lg) (rs : List Int) (q k : Nat) (n0 : Int) : ∀ N j, j < N → payerB l k ((j * q : Nat) : Int) = true → minR l rs q k n0 N ≤ slackB l rs ((j * q : Nat) : Int)
  | 0, j, h, _ => by omega
  | N + 1, j, h, hs => by
    unfold minR
    by_cases e : j = N
    · subst e; rw [hs]; simp; omega
    · have := minR_sl l rs q k n0 N j (by omega) hs
      split <;> omega
theorem minR_or (l : Lg) (rs : List Int) (q k : Nat) (n0 : Int) : ∀ N, minR l rs q k n0 N = n0 ∨ ∃ j, j < N ∧ payerB l k ((j * q : Nat) : Int) = true ∧ minR l rs q k n0 N = slackB l rs ((j * q : Nat) : Int)
  | 0 => .inl rfl
  | N + 1 => by
    have ih := minR_or l rs q k n0 N
    unfold minR
    split
    · rename_i hs
      by_cases c : minR l rs q k n0 N ≤ slackB l rs ((N * q : Nat) : Int)
      · rw [Int.min_eq_left c]
        rcases ih with h | ⟨s, h1, h2, h3⟩
        · exact .inl h
        · exact .inr ⟨s, by omega, h2, h3⟩
      · rw [Int.min_eq_right (by omega)]
        exact .inr ⟨N, by omega, hs, rfl⟩
    · rcases ih with h | ⟨s, h1, h2, h3⟩
      · exact .inl h
      · exact .inr ⟨s, by omega, h2, h3⟩
theorem msk_mul : ∀ s, s < 256 → ∀ i, i < 8 → (mskB i ((s : Nat) : Int) = false ↔ s % 2 ^ (i + 1) = 0) := by decide +kernel
theorem minR_eq {l : Lg} (hb : l.bs.length ≤ 8) {i : Nat} (hi : i < l.bs.length) (rs : List Int) (k : Nat) (n0 : Int) : minR l rs (2 ^ (i + 1)) k n0 (2 ^ (l.bs.length - (i + 1))) = minS l rs i k n0 (2 ^ l.bs.length) := by
  have hN : 2 ^ (l.bs.length - (i + 1)) * 2 ^ (i + 1) = 2 ^ l.bs.length := by rw [← Nat.pow_add, Nat.sub_add_cancel (by omega)]
  have hq : 0 < 2 ^ (i + 1) := Nat.pos_of_ne_zero (by simp)
  have hp := pow_bd l.bs.length (by omega)
  have hm := fun s (hs : s < 2 ^ l.bs.length) => msk_mul s (by omega) i (by omega)
  generalize hJ : 2 ^ (l.bs.length - (i + 1)) = J at *
  generalize hQ : 2 ^ (i + 1) = q at *
  generalize hNN : 2 ^ l.bs.length = N at *
  have h1 : minS l rs i k n0 N ≤ minR l rs q k n0 J := by
    rcases minR_or l rs q k n0 J with h | ⟨j, h1, h2, h3⟩
    · rw [h]; exact minS_le ..
    · rw [h3]
      have hjq : j * q < N := by rw [← hN]; exact Nat.mul_lt_mul_of_pos_right h1 hq
      refine minS_sl l rs i k n0 N (j * q) hjq ?_
      unfold skipB
      rw [h2, (hm _ hjq).2 (Nat.mul_mod_left j q)]; rfl
  have h2 : minR l rs q k n0 J ≤ minS l rs i k n0 N := by
    rcases minS_or l rs i k n0 N with h | ⟨s, h1, h2, h3⟩
    · rw [h]; exact minR_le ..
    · rw [h3]
      unfold skipB at h2
      rw [Bool.or_eq_false_iff] at h2
      have hmod := (hm s h1).1 h2.1
      have hs : s / q * q = s := Nat.div_mul_cancel (Nat.dvd_of_mod_eq_zero hmod)
      have hlt : s / q < J := by
        refine Nat.lt_of_mul_lt_mul_right (a := q) ?_
        rw [hs, hN]; exact h1
      have := minR_sl l rs q k n0 J (s / q) hlt (by rw [hs]; simpa using h2.2)
      rw [hs] at this
      exact this
  omega
end Go.Proofs.Ytbbkeakbomngoaa
