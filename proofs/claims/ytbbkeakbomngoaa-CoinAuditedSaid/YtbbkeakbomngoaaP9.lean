/- Contracts of functions that the claim reaches: what each call gives, told in our own logic. Conditions: those of each theorem. -/
import Derived.Test.YtbbkeakbomngoaaP7
import Derived.Test.YtbbkeakbomngoaaP6
set_option linter.all false
set_option linter.unusedSimpArgs false
set_option linter.unusedVariables false
namespace Go.Proofs.Ytbbkeakbomngoaa
open Go.Av
set_option maxRecDepth 20000
/-! ### A table is one of all traces just if it is valid -/
structure RowOk (l : Lg) (i : Nat) (r : List Int) : Prop where
  len : r.length = l.fs.length
  nn : ∀ f, 0 ≤ elt r f
  can : ∀ f, 0 < elt r f → payB (fd l.fs f) (bl l.bs i) = true
  sum : sumF (elt r) l.fs.length = (bl l.bs i).amt
structure Valid (l : Lg) (t : List (List Int)) : Prop where
  len : t.length = l.bs.length
  row : ∀ i, i < l.bs.length → RowOk l i (lel t i)
  col : ∀ f, f < l.fs.length → sumF (fun i => elt (lel t i) f) l.bs.length ≤ (fd l.fs f).amt
theorem elt_out {l : List Int} {i : Nat} (h : l.length ≤ i) : elt l i = 0 := by
  unfold elt; rw [List.getD_eq_getElem?_getD, List.getElem?_eq_none h]; rfl
theorem elt_nil (i : Nat) : elt [] i = 0 := elt_out (Nat.zero_le _)
theorem elt_snoc (row : List Int) (n : Int) (f : Nat) : elt (row ++ [n]) f = if f = row.length then n else elt row f := by
  by_cases h : f < row.length
  · rw [elt_app h, if_neg (by omega)]
  · by_cases e : f = row.length
    · rw [if_pos e, e, elt_last]
    · rw [if_neg e, elt_out (by rw [List.length_append, List.length_singleton]; omega), elt_out (by omega)]
theorem lel_app {t : List (List Int)} {r : List Int} {i : Nat} (h : i < t.length) : lel (t ++ [r]) i = lel t i := by
  unfold lel; simp only [List.getD_eq_getElem?_getD]; rw [List.getElem?_append_left h]
theorem lel_last {t : List (List Int)} {r : List Int} : lel (t ++ [r]) t.length = r := by
  unfold lel; simp only [List.getD_eq_getElem?_getD]; simp
theorem sumF_pre {F : Nat → Int} {n : Nat} (h : ∀ j, j < n → 0 ≤ F j) : ∀ {i : Nat}, i ≤ n → sumF F i ≤ sumF F n := by
  intro i hi
  induction n with
  | zero => obtain rfl : i = 0 := by omega
            exact Int.le_refl _
  | succ n ih =>
    by_cases e : i = n + 1
    · rw [e]; exact Int.le_refl _
    · have h1 := ih (fun j hj => h j (by omega)) (by omega)
      have h2 := h n (by omega)
      show sumF F i ≤ sumF F n + F n
      omega
structure Cons (l : Lg) (t : List (List Int)) (row left : List Int) (need : Int) : Prop where
  tl : t.length ≤ l.bs.length
  rows : ∀ i, i < t.length → RowOk l i (lel t i)
  rl : row.length ≤ l.fs.length
  rnn : ∀ f, 0 ≤ elt row f
  rcan : ∀ f, 0 < elt row f → payB (fd l.fs f) (bl l.bs t.length) = true
  fin : t.length = l.bs.length → row = []
  eqn : t.length < l.bs.length → need = (bl l.bs t.length).amt - sumF (elt row) l.fs.length
  nd : 0 ≤ need
  ll : left.length = l.fs.length
  eql : ∀ f, f < l.fs.length → elt left f = (fd l.fs f).amt - sumF (fun i => elt (lel t i) f) t.length - elt row f
  lnn : ∀ f, f < l.fs.length → 0 ≤ elt left f
theorem nextA_nn {l : Lg} (hl : LgOk l) (i : Nat) : 0 ≤ nextA l i := by
  unfold nextA
  split
  · rename_i h; exact (hl.b _ (bl_mem h)).amt.1
  · omega
theorem Cons.bill {l : Lg} (hl : LgOk l) {t : List (List Int)} {row left : List Int} {need : Int} (h : Cons l t row left need) (h1 : t.length < l.bs.length) (h2 : row.length = l.fs.length) (h3 : ¬ 0 < need) : Cons l (t ++ [row]) [] left (nextA l (t.length + 1)) := by
  have hn := h.eqn h1
  have hnd := h.nd
  have hsum : ∀ f, sumF (fun i => elt (lel (t ++ [row]) i) f) (t.length + 1) = sumF (fun i => elt (lel t i) f) t.length + elt row f := fun f => by
    show sumF (fun i => elt (lel (t ++ [row]) i) f) t.length + elt (lel (t ++ [row]) t.length) f = _
    rw [lel_last, sumF_congr (G := fun i => elt (lel t i) f) fun i hi => by rw [lel_app hi]]
  refine ⟨by rw [List.length_append, List.length_singleton]; omega, fun i hi => ?_, Nat.zero_le _, fun f => by rw [elt_out (Nat.zero_le _)]; omega, fun f hf => by rw [elt_out (Nat.zero_le _)] at hf; omega, fun _ => rfl, fun hh => ?_, nextA_nn hl _, h.ll, fun f hf => ?_, h.lnn⟩
  · rw [List.length_append, List.length_singleton] at hi
    by_cases e : i < t.length
    · rw [lel_app e]; exact h.rows i e
    · obtain rfl : i = t.length := by omega
      rw [lel_last]
      exact ⟨h2, h.rnn, h.rcan, by omega⟩
  · rw [List.length_append, List.length_singleton] at hh ⊢
    unfold nextA
    rw [if_pos hh, sumF_zero (fun i _ => elt_out (Nat.zero_le _))]; omega
  · rw [List.length_append, List.length_singleton, hsum, elt_nil, h.eql f hf]; omega
theorem Cons.fund {l : Lg} {t : List (List Int)} {row left : List Int} {need : Int} (h : Cons l t row left need) (h1 : t.length < l.bs.length) (h2 : row.length < l.fs.length) {n : Nat} (hn : n < (mostI l t.length row.length left need).toNat + 1) :
    Cons l t (row ++ [((n : Nat) : Int)]) (left.set row.length (elt left row.length - ((n : Nat) : Int))) (need - ((n : Nat) : Int)) := by
  have hnd := h.nd
  have hlf := h.lnn _ h2
  have hm : mostI l t.length row.length left need = if payB (fd l.fs row.length) (bl l.bs t.length) then min need (elt left row.length) else 0 := rfl
  have hb : ((n : Nat) : Int) ≤ need ∧ ((n : Nat) : Int) ≤ elt left row.length ∧ (0 < n → payB (fd l.fs row.length) (bl l.bs t.length) = true) := by
    cases hp : payB (fd l.fs row.length) (bl l.bs t.length)
    · rw [hp] at hm
      have hm' : mostI l t.length row.length left need = 0 := hm
      refine ⟨by omega, by omega, fun h => by omega⟩
    · rw [hp] at hm
      have hm' : mostI l t.length row.length left need = min need (elt left row.length) := hm
      refine ⟨by omega, by omega, fun _ => rfl⟩
  refine ⟨h.tl, h.rows, by rw [List.length_append, List.length_singleton]; omega, fun f => ?_, fun f hf => ?_, fun e => by omega, fun _ => ?_, by omega, by rw [List.length_set]; exact h.ll, fun f hf => ?_, fun f hf => ?_⟩
  · rw [elt_snoc]; split
    · omega
    · exact h.rnn f
  · rw [elt_snoc] at hf
    split at hf
    · rename_i e; rw [e]; exact hb.2.2 (by omega)
    · exact h.rcan f hf
  · have h3 := sumF_one (F := elt (row ++ [((n : Nat) : Int)])) (G := elt row) (k := row.length) (n := l.fs.length) h2 (fun i hi hik => by rw [elt_snoc, if_neg hik])
    rw [elt_last, elt_out (Nat.le_refl _)] at h3
    rw [h3, h.eqn h1]; omega
  · rw [elt_set (by rw [h.ll]; exact h2), elt_snoc]
    have := h.eql f hf
    by_cases e : f = row.length
    · rw [if_pos e, if_pos e, ← e]
      have h0 : elt row f = 0 := elt_out (by omega)
      omega
    · rw [if_neg e, if_neg e]; exact this
  · rw [elt_set (by rw [h.ll]; exact h2)]
    split
    · omega
    · exact h.lnn f hf
theorem trN_sound {l : Lg} (hl : LgOk l) : ∀ (k : Nat) (t : List (List Int)) (row left : List Int) (need : Int), Cons l t row left need → ∀ x ∈ trN l k t row left need, Valid l x
  | 0, _, _, _, _, _, x, hx => by cases hx
  | k + 1, t, row, left, need, h, x, hx => by
    have e : trN l (k + 1) t row left need = if t.length = l.bs.length then [t] else if row.length = l.fs.length then (if 0 < need then [] else trN l k (t ++ [row]) [] left (nextA l (t.length + 1))) else catN (fun n => trN l k t (row ++ [((n : Nat) : Int)]) (left.set row.length (elt left row.length - ((n : Nat) : Int))) (need - ((n : Nat) : Int))) ((mostI l t.length row.length left need).toNat + 1) := rfl
    rw [e] at hx
    have htl := h.tl
    have hrl := h.rl
    split at hx
    · rename_i c1
      obtain rfl := List.mem_singleton.1 hx
      have hr := h.fin c1
      refine ⟨c1, fun i hi => h.rows i (by omega), fun f hf => ?_⟩
      have h1 := h.eql f hf
      have h2 := h.lnn f hf
      rw [hr, elt_nil, c1] at h1
      omega
    · rename_i c1
      split at hx
      · rename_i c2
        split at hx
        · cases hx
        · rename_i c3
          exact trN_sound hl k _ _ _ _ (h.bill hl (by omega) c2 c3) x hx
      · rename_i c2
        obtain ⟨n, hn, hx⟩ := catN_mem.1 hx
        exact trN_sound hl k _ _ _ _ (h.fund (by omega) (by omega) hn) x hx
def prefL (l : Lg) (x : List (List Int)) (i f : Nat) : List Int := (List.range l.fs.length).map fun g => (fd l.fs g).amt - sumF (fun j => elt (lel x j) g) i - (if g < f then elt (lel x i) g else 0)
def prefN (l : Lg) (x : List (List Int)) (i f : Nat) : Int := if i < l.bs.length then (bl l.bs i).amt - sumF (elt (lel x i)) f else 0
theorem prefL_elt {l : Lg} {x : List (List Int)} {i f g : Nat} (h : g < l.fs.length) : elt (prefL l x i f) g = (fd l.fs g).amt - sumF (fun j => elt (lel x j) g) i - (if g < f then elt (lel x i) g else 0) := by
  unfold elt prefL
  rw [List.getD_eq_getElem?_getD, List.getElem?_map, List.getElem?_range h]; rfl
theorem prefL_len (l : Lg) (x : List (List Int)) (i f : Nat) : (prefL l x i f).length = l.fs.length := by simp [prefL]
theorem elt_ext {a b : List Int} (hl : a.length = b.length) (h : ∀ k, k < a.length → elt a k = elt b k) : a = b := by
  refine List.ext_getElem hl fun k h1 h2 => ?_
  have := h k h1
  unfold elt at this
  rw [List.getD_eq_getElem?_getD, List.getD_eq_getElem?_getD, List.getElem?_eq_getElem h1, List.getElem?_eq_getElem h2] at this
  exact this
theorem tk_elt {r : List Int} {f : Nat} (h : f < r.length) : r.take (f + 1) = r.take f ++ [elt r f] := by
  rw [List.take_succ_eq_append_getElem h]; unfold elt; rw [List.getD_eq_getElem?_getD, List.getElem?_eq_getElem h]; rfl
theorem tk_lel {t : List (List Int)} {i : Nat} (h : i < t.length) : t.take (i + 1) = t.take i ++ [lel t i] := by
  rw [List.take_succ_eq_append_getElem h]; unfold lel; rw [List.getD_eq_getElem?_getD, List.getElem?_eq_getElem h]; rfl
theorem trN_complete {l : Lg} {x : List (List Int)} (hv : Valid l x) : ∀ (k i f : Nat), i ≤ l.bs.length → f ≤ l.fs.length → (l.bs.length - i) * (l.fs.length + 1) + (l.fs.length - f) < k → x ∈ trN l k (x.take i) ((lel x i).take f) (prefL l x i f) (prefN l x i f)
  | 0, _, _, _, _, h => absurd h (Nat.not_lt_zero _)
  | k + 1, i, f, hi, hf, hk => by
    have e : ∀ t row left need, trN l (k + 1) t row left need = if t.length = l.bs.length then [t] else if row.length = l.fs.length then (if 0 < need then [] else trN l k (t ++ [row]) [] left (nextA l (t.length + 1))) else catN (fun n => trN l k t (row ++ [((n : Nat) : Int)]) (left.set row.length (elt left row.length - ((n : Nat) : Int))) (need - ((n : Nat) : Int))) ((mostI l t.length row.length left need).toNat + 1) := fun _ _ _ _ => rfl
    have hxl := hv.len
    rw [e]
    have htl : (x.take i).length = i := by rw [List.length_take]; omega
    rw [htl]
    by_cases c1 : i = l.bs.length
    · rw [if_pos c1, List.take_of_length_le (by omega)]; exact List.mem_singleton.2 rfl
    have hi' : i < l.bs.length := by omega
    have hr := hv.row i hi'
    have hrl : ((lel x i).take f).length = f := by rw [List.length_take, hr.len]; omega
    have hpn : prefN l x i f = (bl l.bs i).amt - sumF (elt (lel x i)) f := by unfold prefN; rw [if_pos hi']
    rw [if_neg c1, hrl]
    by_cases c2 : f = l.fs.length
    · rw [if_pos c2, hpn, c2, hr.sum, if_neg (by omega)]
      have e1 : x.take i ++ [(lel x i).take l.fs.length] = x.take (i + 1) := by
        rw [show (lel x i).take l.fs.length = lel x i from List.take_of_length_le (by rw [hr.len]; exact Nat.le_refl _), tk_lel (by omega)]
      have e2 : prefL l x i l.fs.length = prefL l x (i + 1) 0 := by
        refine elt_ext (by rw [prefL_len, prefL_len]) fun g hg => ?_
        rw [prefL_len] at hg
        rw [prefL_elt hg, prefL_elt hg, if_pos hg, if_neg (Nat.not_lt_zero _)]
        show _ = _ - (sumF (fun j => elt (lel x j) g) i + elt (lel x i) g) - 0
        omega
      have e3 : nextA l (i + 1) = prefN l x (i + 1) 0 := by
        unfold nextA prefN
        by_cases hh : i + 1 < l.bs.length
        · rw [if_pos hh, if_pos hh, show sumF (elt (lel x (i + 1))) 0 = 0 from rfl, Int.sub_zero]
        · rw [if_neg hh, if_neg hh]
      rw [e1, e2, e3]
      refine trN_complete hv k (i + 1) 0 (by omega) (Nat.zero_le _) ?_
      have e4 : l.bs.length - i = (l.bs.length - (i + 1)) + 1 := by omega
      rw [e4, Nat.succ_mul] at hk
      omega
    · have hf' : f < l.fs.length := by omega
      rw [if_neg c2]
      have hn0 := hr.nn f
      have hs1 := sumF_pre (F := elt (lel x i)) (n := l.fs.length) (fun j _ => hr.nn j) (i := f + 1) (by omega)
      rw [hr.sum] at hs1
      have hs1' : sumF (elt (lel x i)) f + elt (lel x i) f ≤ (bl l.bs i).amt := hs1
      have hs2 := sumF_pre (F := fun j => elt (lel x j) f) (n := l.bs.length) (fun j hj => (hv.row j hj).nn f) (i := i + 1) (by omega)
      have hs2' : sumF (fun j => elt (lel x j) f) i + elt (lel x i) f ≤ sumF (fun j => elt (lel x j) f) l.bs.length := hs2
      have hcol := hv.col f hf'
      have hle : elt (prefL l x i f) f = (fd l.fs f).amt - sumF (fun j => elt (lel x j) f) i := by rw [prefL_elt hf', if_neg (Nat.lt_irrefl _)]; omega
      have hmo : elt (lel x i) f ≤ mostI l i f (prefL l x i f) (prefN l x i f) := by
        unfold mostI
        rw [hle, hpn]
        cases hp : payB (fd l.fs f) (bl l.bs i)
        · have : ¬ 0 < elt (lel x i) f := fun h => by rw [hr.can f h] at hp; cases hp
          simp only [Bool.false_eq_true, if_false]; omega
        · simp only [if_true]; omega
      refine catN_mem.2 ⟨(elt (lel x i) f).toNat, by omega, ?_⟩
      have hcast : (((elt (lel x i) f).toNat : Nat) : Int) = elt (lel x i) f := by omega
      rw [hcast, ← tk_elt (by rw [hr.len]; exact hf')]
      have e2 : (prefL l x i f).set f (elt (prefL l x i f) f - elt (lel x i) f) = prefL l x i (f + 1) := by
        refine elt_ext (by rw [List.length_set, prefL_len, prefL_len]) fun g hg => ?_
        rw [List.length_set, prefL_len] at hg
        rw [elt_set (by rw [prefL_len]; exact hf'), prefL_elt (i := i) (f := f + 1) hg]
        by_cases e : g = f
        · subst e; rw [if_pos rfl, if_pos (by omega), hle]
        · rw [if_neg e, prefL_elt hg]
          by_cases c : g < f
          · rw [if_pos c, if_pos (by omega)]
          · rw [if_neg c, if_neg (by omega)]
      have e3 : prefN l x i f - elt (lel x i) f = prefN l x i (f + 1) := by
        rw [hpn]; unfold prefN; rw [if_pos hi']
        show _ = _ - (sumF (elt (lel x i)) f + elt (lel x i) f)
        omega
      rw [e2, e3]
      exact trN_complete hv k i (f + 1) hi (by omega) (by omega)
end Go.Proofs.Ytbbkeakbomngoaa
