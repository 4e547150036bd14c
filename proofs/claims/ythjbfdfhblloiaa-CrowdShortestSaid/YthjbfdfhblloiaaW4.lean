/- Contracts of functions that the claim reaches: what each call gives, told in our own logic. Conditions: those of each theorem. -/
import Derived.Test.YthjbfdfhblloiaaW2
import Derived.Test.YthjbfdfhblloiaaW3
set_option linter.all false
set_option linter.unusedSimpArgs false
set_option linter.unusedVariables false
namespace Go.Proofs.Ythjbfdfhblloiaa
open Go.Av
set_option maxRecDepth 20000
/-! ### Ways are shortest, plain -/
theorem lvl_front {t : Tw} (hT : TwOk t) {c : List Int} {b p : Int} (hb : 0 ≤ b ∧ b < t.rooms.length) (ha : adjB t c b p = true) : ∀ (n : Nat) (q : Int), 0 ≤ q → lvl t c p n q = true → lvl t c b (n + 1) q = true
  | 0, q, hq, h => by
    have e : q = p := of_decide_eq_true h
    rw [e]
    exact lvl_step (t := t) (c := c) (n := 0) hb (decide_eq_true rfl) ha
  | n + 1, q, hq, h => by
    cases e : lvl t c p n q
    · obtain ⟨r, hr, h1, h2⟩ := lvl_pre h e
      exact lvl_step ⟨by omega, by omega⟩ (lvl_front hT hb ha n (r : Nat) (by omega) h1) h2
    · exact lvl_succ (lvl_front hT hb ha n q hq e)
theorem lvl_sym1 {t : Tw} (hT : TwOk t) {c : List Int} {a : Int} (ha : 0 ≤ a ∧ a < t.rooms.length) : ∀ (n : Nat) (b : Int), 0 ≤ b → lvl t c a n b = true → lvl t c b n a = true
  | 0, b, hb, h => by
    have e : b = a := of_decide_eq_true h
    rw [e]; exact decide_eq_true rfl
  | n + 1, b, hb, h => by
    cases e : lvl t c a n b
    · obtain ⟨r, hr, h1, h2⟩ := lvl_pre h e
      have h3 := lvl_sym1 hT ha n (r : Nat) (by omega) h1
      have h4 := adj_bd hT hb h2
      exact lvl_front hT ⟨hb, h4⟩ (adj_sym hT (by omega) hb h2) n a ha.1 h3
    · exact lvl_succ (lvl_sym1 hT ha n b hb e)
theorem lvl_sym {t : Tw} (hT : TwOk t) {c : List Int} {a b : Int} (ha : 0 ≤ a ∧ a < t.rooms.length) (hb : 0 ≤ b ∧ b < t.rooms.length) (n : Nat) : lvl t c a n b = lvl t c b n a := by
  cases e : lvl t c a n b
  · cases e2 : lvl t c b n a
    · rfl
    · rw [lvl_sym1 hT hb n a ha.1 e2] at e; cases e
  · rw [lvl_sym1 hT ha n b hb.1 e]
theorem wayL_ok {t : Tw} (hT : TwOk t) {c : List Int} {to : Int} (hto : 0 ≤ to ∧ to < t.rooms.length) : ∀ (d : Nat) (q : Int), 0 ≤ q → q < t.rooms.length → dst t c to q = some d →
    elt (wayL t c to d q) 0 = q ∧ elt (wayL t c to d q) d = to ∧ (∀ i, i ≤ d → 0 ≤ elt (wayL t c to d q) i ∧ elt (wayL t c to d q) i < t.rooms.length) ∧ ∀ i, i < d → adjB t c (elt (wayL t c to d q) i) (elt (wayL t c to d q) (i + 1)) = true
  | 0, q, h0, h1, h => by
    have e := (dst_zero hT hto h0).1 h
    have e1 : elt (wayL t c to 0 q) 0 = q := rfl
    have e2 : ∀ i, i ≤ 0 → 0 ≤ elt (wayL t c to 0 q) i ∧ elt (wayL t c to 0 q) i < t.rooms.length := fun i hi => by
      have e3 : i = 0 := by omega
      rw [e3, e1]; exact ⟨h0, h1⟩
    exact ⟨e1, by rw [e1, e], e2, fun i hi => absurd hi (Nat.not_lt_zero _)⟩
  | d + 1, q, h0, h1, h => by
    obtain ⟨v1, v2, v3, v4⟩ := nx_ok hT hto h0 h
    obtain ⟨r1, r2, r3, r4⟩ := wayL_ok hT hto d _ v1 v2 v3
    have es : ∀ i, elt (wayL t c to (d + 1) q) (i + 1) = elt (wayL t c to d (nxN t c to d q t.sts.length)) i := fun i => rfl
    have e0 : elt (wayL t c to (d + 1) q) 0 = q := rfl
    refine ⟨e0, by rw [es]; exact r2, fun i hi => ?_, fun i hi => ?_⟩
    · cases i with
      | zero => rw [e0]; exact ⟨h0, h1⟩
      | succ i => rw [es]; exact r3 i (by omega)
    · cases i with
      | zero => rw [e0, es, r1]; exact v4
      | succ i => rw [es, es]; exact r4 i (by omega)
/-- Fewer streets are closed. -/
theorem adj_mono {t : Tw} {c c' : List Int} (h : ∀ x, x ∈ c' → x ∈ c) {p q : Int} (ha : adjB t c p q = true) : adjB t c' p q = true := by
  obtain ⟨i, hi, h1, h2⟩ := adjB_iff.1 ha
  refine adjB_iff.2 ⟨i, hi, ?_, h2⟩
  unfold clB at *
  cases e : c'.contains ((i : Nat) : Int) with
  | false => rfl
  | true =>
    rw [(List.contains_iff_mem).2 (h _ ((List.contains_iff_mem).1 e))] at h1
    cases h1
theorem lvl_mono {t : Tw} {c c' : List Int} (h : ∀ x, x ∈ c' → x ∈ c) {to : Int} : ∀ (n : Nat) (q : Int), lvl t c to n q = true → lvl t c' to n q = true
  | 0, _, e => e
  | n + 1, q, e => by
    cases e2 : lvl t c to n q
    · obtain ⟨p, hp, h1, h2⟩ := lvl_pre e e2
      exact lvl_step ⟨by omega, by omega⟩ (lvl_mono h n _ h1) (adj_mono h h2)
    · exact lvl_succ (lvl_mono h n q e2)
theorem dst_mono {t : Tw} (hT : TwOk t) {c c' : List Int} (h : ∀ x, x ∈ c' → x ∈ c) {to q : Int} (hto : 0 ≤ to ∧ to < t.rooms.length) (hq : 0 ≤ q) {d : Nat} (hd : dst t c to q = some d) : ∃ d', d' ≤ d ∧ dst t c' to q = some d' := by
  obtain ⟨m, h1, h2⟩ := isD_least (lvl_mono h d q ((dst_iff hT hto hq).1 hd).1)
  exact ⟨m, h1, (dst_iff hT hto hq).2 h2⟩
end Go.Proofs.Ythjbfdfhblloiaa
