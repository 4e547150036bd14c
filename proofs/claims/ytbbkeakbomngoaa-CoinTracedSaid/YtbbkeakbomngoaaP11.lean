/- Contracts of functions that the claim reaches: what each call gives, told in our own logic. Conditions: those of each theorem. -/
import Derived.Test.YtbbkeakbomngoaaP10
set_option linter.all false
set_option linter.unusedSimpArgs false
set_option linter.unusedVariables false
namespace Go.Proofs.Ytbbkeakbomngoaa
open Go.Av
set_option maxRecDepth 20000
/-! ### The trace is the last one of all traces -/
theorem later_slack {l : Lg} {x : List (List Int)} (hv : Valid l x) {i : Nat} {r : List Int} (hr : ∀ f, f < l.fs.length → sumF (fun j => if i < j then elt (lel x j) f else 0) l.bs.length ≤ r.getD f 0) {s : Int} (hs : ∀ j : Nat, j < l.bs.length → hasB s ((j : Nat) : Int) = true → i < j) : 0 ≤ slackB l r s := by
  have h1 : dueB l s = sumF (fun f => sumF (fun i => if hasB s (i : Nat) = true then elt (lel x i) f else 0) l.bs.length) l.fs.length := by
    rw [← sumF_swap (fun i f => if hasB s (i : Nat) = true then elt (lel x i) f else 0)]
    unfold dueB
    refine sumF_congr fun i hi => ?_
    unfold dueF
    rw [← (hv.row i hi).sum]
    cases hb : hasB s ((i : Nat) : Int)
    · rw [if_neg (by simp)]
      exact (sumF_zero (fun f _ => by simp)).symm
    · rw [if_pos rfl]
      exact sumF_congr fun f _ => by simp
  have h2 : dueB l s ≤ sumF (givF l r s) l.fs.length := by
    rw [h1]
    refine sumF_mono fun f hf => ?_
    unfold givF
    by_cases hp : payerB l f s = true
    · rw [if_pos hp]
      refine Int.le_trans (sumF_mono fun j hj => ?_) (hr f hf)
      by_cases hb : hasB s ((j : Nat) : Int) = true
      · rw [if_pos hb, if_pos (hs j hj hb)]; exact Int.le_refl _
      · rw [if_neg hb]
        split
        · exact (hv.row j hj).nn f
        · exact Int.le_refl _
    · rw [if_neg hp]
      refine Int.le_of_eq (sumF_zero fun i hi => ?_)
      split
      · rename_i hb
        have h0 := (hv.row i hi).nn f
        by_cases hz : 0 < elt (lel x i) f
        · exact absurd (List.any_eq_true.2 ⟨i, List.mem_range.2 hi, by rw [hb, (hv.row i hi).can f hz]; rfl⟩) hp
        · omega
      · rfl
  unfold slackB
  omega
theorem sumF_later (F : Nat → Int) (i : Nat) : ∀ n, i < n → sumF (fun j => if i < j then F j else 0) n = sumF F n - sumF F (i + 1)
  | 0, h => absurd h (Nat.not_lt_zero _)
  | n + 1, h => by
    show sumF (fun j => if i < j then F j else 0) n + (if i < n then F n else 0) = sumF F n + F n - sumF F (i + 1)
    by_cases e : i = n
    · subst e
      rw [if_neg (Nat.lt_irrefl _), sumF_zero (fun j hj => if_neg (by omega))]
      show (0 : Int) + 0 = sumF F i + F i - (sumF F i + F i)
      omega
    · rw [sumF_later F i n (by omega), if_pos (by omega)]; omega
theorem row_keep (l : Lg) (i : Nat) (rs : List Int) {k g : Nat} (hg : g < k) : ∀ {m : Nat}, k ≤ m → elt (tsN l i rs m).row g = elt (tsN l i rs k).row g
  | 0, h => absurd h (by omega)
  | m + 1, h => by
    by_cases e : k = m + 1
    · rw [e]
    · have ih := row_keep l i rs hg (m := m) (by omega)
      have e1 : tsN l i rs (m + 1) = (tsN l i rs m).step l i m := rfl
      rw [e1, ← ih]
      unfold TS.step
      split
      · unfold elt
        simp only [List.getD_eq_getElem?_getD]
        rw [List.getElem?_set_ne (by omega)]
      · rfl
theorem row_at (l : Lg) (i : Nat) (rs : List Int) {k : Nat} (hz : elt (tsN l i rs k).row k = 0) (hl : k < (tsN l i rs k).row.length) : elt (tsN l i rs (k + 1)).row k = if payB (fd l.fs k) (bl l.bs i) = true then (tsN l i rs k).n l i k else 0 := by
  have e1 : tsN l i rs (k + 1) = (tsN l i rs k).step l i k := rfl
  rw [e1]
  unfold TS.step
  split
  · show elt (List.set _ _ _) k = _
    rw [elt_set hl, if_pos rfl]
  · exact hz
section
variable {l : Lg} (hl : LgOk l) (hp : prf l = none)
include hl hp
theorem tr_elt {i f : Nat} (hi : i < l.bs.length) (hf : f < l.fs.length) : elt (lel (traceL l) i) f = elt (rowW l i) f := by
  have hg : lel (traceL l) i = rowN l i := by
    unfold lel traceL
    simp [List.getD_eq_getElem?_getD, hi]
  rw [hg]
  show elt ((rowW l i).take l.fs.length) f = _
  unfold elt
  simp only [List.getD_eq_getElem?_getD, List.getElem?_take, hf, if_true]
theorem tr_rest {f : Nat} (hf : f < l.fs.length) : ∀ m, m ≤ l.bs.length → elt (rsN l m) f = (fd l.fs f).amt - sumF (fun i => elt (lel (traceL l) i) f) m
  | 0, _ => by
    have hfn := hl.fn
    have h2 : elt (rsN l 0) f = (fd l.fs f).amt := amts_get (by omega)
    show _ = _ - (0 : Int)
    omega
  | m + 1, h => by
    have ih := tr_rest hf m (by omega)
    have h1 := rest_step hl hp (by omega : m < l.bs.length) f
    have h2 := tr_elt hl hp (by omega : m < l.bs.length) hf
    show _ = _ - (sumF (fun i => elt (lel (traceL l) i) f) m + elt (lel (traceL l) m) f)
    omega
/-- No trace that goes on from the same numbers gives more. -/
theorem top_le {y : List (List Int)} (hv : Valid l y) {i f : Nat} (hi : i < l.bs.length) (hf : f < l.fs.length) (h1 : ∀ j, j < i → lel y j = lel (traceL l) j) (h2 : ∀ g, g < f → elt (lel y i) g = elt (lel (traceL l) i) g) : elt (lel y i) f ≤ elt (lel (traceL l) i) f := by
  have hfn := hl.fn
  have hbn := hl.bn
  obtain ⟨q1, q2⟩ := rsN_ok hl hp i (by omega)
  have hT := tsN_ok hl hi q1 q2 f (by omega)
  have hR := tsN_row hl hi q1 q2 f (by omega)
  have hrow : ∀ g, g < f → elt (tsN l i (rsN l i) f).row g = elt (lel y i) g := fun g hg => by
    rw [h2 g hg, tr_elt hl hp hi (by omega)]
    exact (row_keep l i (rsN l i) hg (m := l.fs.length) (by omega)).symm
  have hat : elt (lel (traceL l) i) f = if payB (fd l.fs f) (bl l.bs i) = true then (tsN l i (rsN l i) f).n l i f else 0 := by
    rw [tr_elt hl hp hi hf, ← row_at l i (rsN l i) (hR.zero f (Nat.le_refl _)) (by rw [hT.len]; omega)]
    exact row_keep l i (rsN l i) (Nat.lt_succ_self f) (m := l.fs.length) (by omega)
  have hy0 := (hv.row i hi).nn f
  by_cases hc : payB (fd l.fs f) (bl l.bs i) = true
  case neg =>
    rw [hat, if_neg hc]
    by_cases hz : 0 < elt (lel y i) f
    · exact absurd ((hv.row i hi).can f hz) hc
    · omega
  rw [hat, if_pos hc]
  have hrs : ∀ g, g < l.fs.length → elt (tsN l i (rsN l i) f).rs g = (fd l.fs g).amt - sumF (fun j => elt (lel y j) g) i - elt (tsN l i (rsN l i) f).row g := fun g hg => by
    rw [hR.rs g, tr_rest hl hp hg i (by omega)]
    rw [sumF_congr (F := fun j => elt (lel (traceL l) j) g) (G := fun j => elt (lel y j) g) fun j hj => by rw [h1 j hj]]
  have hz : elt (tsN l i (rsN l i) f).row f = 0 := hR.zero f (Nat.le_refl _)
  have hlat : ∀ g, g < l.fs.length → sumF (fun j => if i < j then elt (lel y j) g else 0) l.bs.length ≤ (fd l.fs g).amt - sumF (fun j => elt (lel y j) g) i - elt (lel y i) g := fun g hg => by
    have := sumF_later (fun j => elt (lel y j) g) i l.bs.length hi
    have hc := hv.col g hg
    have e : sumF (fun j => elt (lel y j) g) (i + 1) = sumF (fun j => elt (lel y j) g) i + elt (lel y i) g := rfl
    omega
  rcases minS_or l (tsN l i (rsN l i) f).rs i f (min (tsN l i (rsN l i) f).need ((tsN l i (rsN l i) f).rs.getD f 0)) (2 ^ l.bs.length) with e | ⟨s, s1, s2, s3⟩
  · have e' : (tsN l i (rsN l i) f).n l i f = min (tsN l i (rsN l i) f).need ((tsN l i (rsN l i) f).rs.getD f 0) := e
    rw [e']
    have a1 : elt (lel y i) f ≤ (tsN l i (rsN l i) f).need := by
      rw [hR.need]
      have b1 := sumF_pre (F := elt (lel y i)) (n := l.fs.length) (fun j _ => (hv.row i hi).nn j) (i := f + 1) (by omega)
      rw [(hv.row i hi).sum] at b1
      have b2 : sumF (elt (lel y i)) (f + 1) = sumF (elt (lel y i)) f + elt (lel y i) f := rfl
      have b3 : sumF (elt (tsN l i (rsN l i) f).row) f = sumF (elt (lel y i)) f := sumF_congr hrow
      omega
    have a2 : elt (lel y i) f ≤ (tsN l i (rsN l i) f).rs.getD f 0 := by
      have b1 := hrs f hf
      have b2 : (tsN l i (rsN l i) f).rs.getD f 0 = elt (tsN l i (rsN l i) f).rs f := rfl
      have b3 := hlat f hf
      have b4 : 0 ≤ sumF (fun j => if i < j then elt (lel y j) f else 0) l.bs.length := sumF_nn fun j hj => by
        split
        · exact (hv.row j hj).nn f
        · exact Int.le_refl _
      omega
    omega
  · have e' : (tsN l i (rsN l i) f).n l i f = slackB l (tsN l i (rsN l i) f).rs ((s : Nat) : Int) := s3
    rw [e']
    have hsk : mskB i ((s : Nat) : Int) = false ∧ payerB l f ((s : Nat) : Int) = true := by
      unfold skipB at s2
      cases hm : mskB i ((s : Nat) : Int) <;> cases hpy : payerB l f ((s : Nat) : Int) <;> rw [hm, hpy] at s2 <;> simp at s2 ⊢
    have hpw := pow_bd l.bs.length (by omega)
    have hms := (msk_false (i := i) (s := s) (by omega) (by omega)).1 hsk.1
    have hrl : f < (tsN l i (rsN l i) f).rs.length := by rw [hT.rs.1]; omega
    have hsl := later_slack hv (i := i) (r := (tsN l i (rsN l i) f).rs.set f ((tsN l i (rsN l i) f).rs.getD f 0 - elt (lel y i) f)) (s := ((s : Nat) : Int)) (fun g hg => by
      have b0 := hlat g hg
      have b1 := hrs g hg
      show _ ≤ elt (List.set _ _ _) g
      rw [elt_set hrl]
      split
      · rename_i e
        subst e
        have b2 : (tsN l i (rsN l i) g).rs.getD g 0 = elt (tsN l i (rsN l i) g).rs g := rfl
        omega
      · rename_i e
        by_cases hgf : g < f
        · have := hrow g hgf
          omega
        · have := hR.zero g (by omega)
          have := (hv.row i hi).nn g
          omega) (fun j hj hb => hms j hb (by omega))
    have hd : slackB l ((tsN l i (rsN l i) f).rs.set f ((tsN l i (rsN l i) f).rs.getD f 0 - elt (lel y i) f)) ((s : Nat) : Int) = slackB l (tsN l i (rsN l i) f).rs ((s : Nat) : Int) - elt (lel y i) f := by
      have h3 := sumF_one (F := givF l ((tsN l i (rsN l i) f).rs.set f ((tsN l i (rsN l i) f).rs.getD f 0 - elt (lel y i) f)) ((s : Nat) : Int)) (G := givF l (tsN l i (rsN l i) f).rs ((s : Nat) : Int)) (k := f) (n := l.fs.length) hf (fun j hj hjk => by
        unfold givF
        simp only [List.getD_eq_getElem?_getD]
        rw [List.getElem?_set_ne (fun e => hjk e.symm)])
      have e1 : givF l ((tsN l i (rsN l i) f).rs.set f ((tsN l i (rsN l i) f).rs.getD f 0 - elt (lel y i) f)) ((s : Nat) : Int) f = (tsN l i (rsN l i) f).rs.getD f 0 - elt (lel y i) f := by
        unfold givF
        rw [if_pos hsk.2]
        show elt (List.set _ _ _) f = _
        rw [elt_set hrl, if_pos rfl]
      have e2 : givF l (tsN l i (rsN l i) f).rs ((s : Nat) : Int) f = (tsN l i (rsN l i) f).rs.getD f 0 := by
        unfold givF
        rw [if_pos hsk.2]
      unfold slackB
      omega
    omega
end
theorem take_take_le {α : Type} {l : List α} {a b : Nat} (h : a ≤ b) {m : List α} (e : l.take b = m) : l.take a = m.take a := by
  rw [← e, List.take_take, Nat.min_eq_left h]
/-- What goes on from rows goes on from them. -/
theorem trN_pref {l : Lg} : ∀ (k : Nat) (t : List (List Int)) (row left : List Int) (need : Int), t.length ≤ l.bs.length → row.length ≤ l.fs.length → ∀ x ∈ trN l k t row left need, x.take t.length = t ∧ (t.length < l.bs.length → (lel x t.length).take row.length = row)
  | 0, _, _, _, _, _, _, x, hx => by cases hx
  | k + 1, t, row, left, need, htl, hrl, x, hx => by
    have e : trN l (k + 1) t row left need = if t.length = l.bs.length then [t] else if row.length = l.fs.length then (if 0 < need then [] else trN l k (t ++ [row]) [] left (nextA l (t.length + 1))) else catN (fun n => trN l k t (row ++ [((n : Nat) : Int)]) (left.set row.length (elt left row.length - ((n : Nat) : Int))) (need - ((n : Nat) : Int))) ((mostI l t.length row.length left need).toNat + 1) := rfl
    rw [e] at hx
    split at hx
    · obtain rfl := List.mem_singleton.1 hx
      exact ⟨List.take_length, fun h => by omega⟩
    · rename_i c1
      split at hx
      · rename_i c2
        split at hx
        · cases hx
        · have ih := (trN_pref k (t ++ [row]) [] left _ (by rw [List.length_append, List.length_singleton]; omega) (Nat.zero_le _) x hx).1
          rw [List.length_append, List.length_singleton] at ih
          refine ⟨?_, fun _ => ?_⟩
          · have := take_take_le (Nat.le_succ t.length) ih
            rw [this, List.take_left']
            rfl
          · have h3 : lel x t.length = lel (x.take (t.length + 1)) t.length := by
              unfold lel
              simp only [List.getD_eq_getElem?_getD, List.getElem?_take, Nat.lt_succ_self, if_true]
            rw [h3, ih, lel_last, List.take_length]
      · rename_i c2
        obtain ⟨n, hn, hx⟩ := catN_mem.1 hx
        obtain ⟨i1, i2⟩ := trN_pref k t (row ++ [((n : Nat) : Int)]) _ _ htl (by rw [List.length_append, List.length_singleton]; omega) x hx
        refine ⟨i1, fun h => ?_⟩
        have i3 := i2 h
        rw [List.length_append, List.length_singleton] at i3
        rw [take_take_le (Nat.le_succ row.length) i3, List.take_left']
        rfl
theorem cons_pref {l : Lg} {x : List (List Int)} (hv : Valid l x) {i f : Nat} (hi : i < l.bs.length) (hf : f ≤ l.fs.length) : Cons l (x.take i) ((lel x i).take f) (prefL l x i f) (prefN l x i f) := by
  have hr := hv.row i hi
  have hxl := hv.len
  have hti : (x.take i).length = i := by rw [List.length_take]; omega
  have htf : ((lel x i).take f).length = f := by rw [List.length_take, hr.len]; omega
  have hel : ∀ g, elt ((lel x i).take f) g = if g < f then elt (lel x i) g else 0 := fun g => by
    unfold elt
    simp only [List.getD_eq_getElem?_getD, List.getElem?_take]
    split <;> rfl
  have hlk : ∀ j, j < i → lel (x.take i) j = lel x j := fun j hj => by
    unfold lel
    simp only [List.getD_eq_getElem?_getD, List.getElem?_take, hj, if_true]
  have hsf : sumF (elt ((lel x i).take f)) l.fs.length = sumF (elt (lel x i)) f := by
    have : ∀ n, f ≤ n → sumF (elt ((lel x i).take f)) n = sumF (elt (lel x i)) f := fun n hn => by
      induction n with
      | zero => obtain rfl : f = 0 := by omega
                rfl
      | succ n ih =>
        by_cases e : f = n + 1
        · subst e
          exact sumF_congr fun j hj => by rw [hel, if_pos hj]
        · show sumF _ n + elt _ n = _
          rw [ih (by omega), hel, if_neg (by omega)]; omega
    exact this _ hf
  have hcl : ∀ g, g < l.fs.length → sumF (fun j => elt (lel x j) g) i + (if g < f then elt (lel x i) g else 0) ≤ (fd l.fs g).amt := fun g hg => by
    have h1 := hv.col g hg
    have h2 := sumF_pre (F := fun j => elt (lel x j) g) (n := l.bs.length) (fun j hj => (hv.row j hj).nn g) (i := i + 1) (by omega)
    have h3 : sumF (fun j => elt (lel x j) g) (i + 1) = sumF (fun j => elt (lel x j) g) i + elt (lel x i) g := rfl
    have h4 := hr.nn g
    split <;> omega
  refine ⟨by omega, fun j hj => ?_, by omega, fun g => ?_, fun g hg => ?_, fun h => by omega, fun _ => ?_, ?_, prefL_len _ _ _ _, fun g hg => ?_, fun g hg => ?_⟩
  · rw [hti] at hj
    rw [hlk j hj]; exact hv.row j (by omega)
  · rw [hel]; split
    · exact hr.nn g
    · exact Int.le_refl _
  · rw [hel] at hg
    split at hg
    · rw [hti]; exact hr.can g hg
    · omega
  · unfold prefN; rw [if_pos hi, hti, hsf]
  · unfold prefN; rw [if_pos hi]
    have h1 := sumF_pre (F := elt (lel x i)) (n := l.fs.length) (fun j _ => hr.nn j) (i := f) hf
    rw [hr.sum] at h1; omega
  · rw [prefL_elt hg, hti, hel, sumF_congr (F := fun i_1 => elt (lel (x.take i) i_1) g) (G := fun j => elt (lel x j) g) fun j hj => by rw [hlk j hj]]
  · rw [prefL_elt hg]
    have := hcl g hg
    omega
theorem pref_next {l : Lg} {x : List (List Int)} (hv : Valid l x) {i f : Nat} (hi : i < l.bs.length) (hf : f < l.fs.length) :
    (lel x i).take f ++ [elt (lel x i) f] = (lel x i).take (f + 1) ∧ (prefL l x i f).set f (elt (prefL l x i f) f - elt (lel x i) f) = prefL l x i (f + 1) ∧ prefN l x i f - elt (lel x i) f = prefN l x i (f + 1) := by
  have hr := hv.row i hi
  have hle : elt (prefL l x i f) f = (fd l.fs f).amt - sumF (fun j => elt (lel x j) f) i := by rw [prefL_elt hf, if_neg (Nat.lt_irrefl _)]; omega
  refine ⟨(tk_elt (by rw [hr.len]; exact hf)).symm, ?_, ?_⟩
  · refine elt_ext (by rw [List.length_set, prefL_len, prefL_len]) fun g hg => ?_
    rw [List.length_set, prefL_len] at hg
    rw [elt_set (by rw [prefL_len]; exact hf), prefL_elt (i := i) (f := f + 1) hg]
    by_cases e : g = f
    · subst e; rw [if_pos rfl, if_pos (by omega), hle]
    · rw [if_neg e, prefL_elt hg]
      by_cases c : g < f
      · rw [if_pos c, if_pos (by omega)]
      · rw [if_neg c, if_neg (by omega)]
  · unfold prefN; rw [if_pos hi, if_pos hi]
    show _ = _ - (sumF (elt (lel x i)) f + elt (lel x i) f)
    omega
theorem pref_bill {l : Lg} {x : List (List Int)} (hv : Valid l x) {i : Nat} (hi : i < l.bs.length) :
    x.take i ++ [(lel x i).take l.fs.length] = x.take (i + 1) ∧ prefL l x i l.fs.length = prefL l x (i + 1) 0 ∧ nextA l (i + 1) = prefN l x (i + 1) 0 ∧ prefN l x i l.fs.length = 0 := by
  have hr := hv.row i hi
  have hxl := hv.len
  refine ⟨?_, ?_, ?_, ?_⟩
  · rw [show (lel x i).take l.fs.length = lel x i from List.take_of_length_le (by rw [hr.len]; exact Nat.le_refl _), tk_lel (by omega)]
  · refine elt_ext (by rw [prefL_len, prefL_len]) fun g hg => ?_
    rw [prefL_len] at hg
    rw [prefL_elt hg, prefL_elt hg, if_pos hg, if_neg (Nat.not_lt_zero _)]
    show _ = _ - (sumF (fun j => elt (lel x j) g) i + elt (lel x i) g) - 0
    omega
  · unfold nextA prefN
    by_cases hh : i + 1 < l.bs.length
    · rw [if_pos hh, if_pos hh, show sumF (elt (lel x (i + 1))) 0 = 0 from rfl, Int.sub_zero]
    · rw [if_neg hh, if_neg hh]
  · unfold prefN; rw [if_pos hi, hr.sum]; omega
theorem last_pref {l : Lg} (hl : LgOk l) (hp : prf l = none) : ∀ (k i f : Nat), i ≤ l.bs.length → f ≤ l.fs.length → (l.bs.length - i) * (l.fs.length + 1) + (l.fs.length - f) < k → (trN l k ((traceL l).take i) ((lel (traceL l) i).take f) (prefL l (traceL l) i f) (prefN l (traceL l) i f)).getLast? = some (traceL l)
  | 0, _, _, _, _, h => absurd h (Nat.not_lt_zero _)
  | k + 1, i, f, hi, hf, hk => by
    have hv := trace_valid hl hp
    have hxl := hv.len
    have e : ∀ t row left need, trN l (k + 1) t row left need = if t.length = l.bs.length then [t] else if row.length = l.fs.length then (if 0 < need then [] else trN l k (t ++ [row]) [] left (nextA l (t.length + 1))) else catN (fun n => trN l k t (row ++ [((n : Nat) : Int)]) (left.set row.length (elt left row.length - ((n : Nat) : Int))) (need - ((n : Nat) : Int))) ((mostI l t.length row.length left need).toNat + 1) := fun _ _ _ _ => rfl
    rw [e]
    have htl : ((traceL l).take i).length = i := by rw [List.length_take]; omega
    rw [htl]
    by_cases c1 : i = l.bs.length
    · rw [if_pos c1, List.take_of_length_le (by omega)]; rfl
    have hi' : i < l.bs.length := by omega
    have hr := hv.row i hi'
    have hrl : ((lel (traceL l) i).take f).length = f := by rw [List.length_take, hr.len]; omega
    rw [if_neg c1, hrl]
    by_cases c2 : f = l.fs.length
    · obtain ⟨b1, b2, b3, b4⟩ := pref_bill hv hi'
      subst c2
      rw [if_pos rfl, b4, if_neg (by omega), b1, b2, b3]
      refine last_pref hl hp k (i + 1) 0 (by omega) (Nat.zero_le _) ?_
      have e4 : l.bs.length - i = (l.bs.length - (i + 1)) + 1 := by omega
      rw [e4, Nat.succ_mul] at hk
      omega
    · have hf' : f < l.fs.length := by omega
      rw [if_neg c2]
      have hC := cons_pref hv hi' hf
      obtain ⟨b1, b2, b3⟩ := pref_next hv hi' hf'
      have hn0 := hr.nn f
      have hcast : (((elt (lel (traceL l) i) f).toNat : Nat) : Int) = elt (lel (traceL l) i) f := by omega
      have hgo : trN l k ((traceL l).take i) ((lel (traceL l) i).take f ++ [(((elt (lel (traceL l) i) f).toNat : Nat) : Int)]) ((prefL l (traceL l) i f).set f (elt (prefL l (traceL l) i f) f - (((elt (lel (traceL l) i) f).toNat : Nat) : Int))) (prefN l (traceL l) i f - (((elt (lel (traceL l) i) f).toNat : Nat) : Int)) = trN l k ((traceL l).take i) ((lel (traceL l) i).take (f + 1)) (prefL l (traceL l) i (f + 1)) (prefN l (traceL l) i (f + 1)) := by
        rw [hcast, b1, b2, b3]
      have ih := last_pref hl hp k i (f + 1) hi (by omega) (by omega)
      have hmo : elt (lel (traceL l) i) f ≤ mostI l i f (prefL l (traceL l) i f) (prefN l (traceL l) i f) := by
        have h1 := (cons_pref hv hi' (f := f + 1) (by omega)).nd
        have h2 := (cons_pref hv hi' (f := f + 1) (by omega)).lnn f hf'
        rw [← b3] at h1
        rw [← b2, elt_set (by rw [prefL_len]; exact hf'), if_pos rfl] at h2
        unfold mostI
        cases hpy : payB (fd l.fs f) (bl l.bs i)
        · have : ¬ 0 < elt (lel (traceL l) i) f := fun h => by rw [hr.can f h] at hpy; cases hpy
          simp only [Bool.false_eq_true, if_false]; omega
        · simp only [if_true]; omega
      rw [catN_last (j := (elt (lel (traceL l) i) f).toNat) (by omega) (fun n hn1 hn2 => ?_) (fun h => ?_)]
      · rw [hgo]; exact ih
      · refine List.eq_nil_iff_forall_not_mem.2 fun y hy => ?_
        have hC2 := hC.fund (n := n) (by rw [htl]; exact hi') (by rw [hrl]; exact hf') (by rw [htl, hrl]; exact hn2)
        rw [hrl] at hC2
        have hvy := trN_sound hl k _ _ _ _ hC2 y hy
        obtain ⟨p1, p2⟩ := trN_pref k _ _ _ _ (by rw [htl]; omega) (by rw [List.length_append, hrl, List.length_singleton]; omega) y hy
        rw [htl] at p1 p2
        have p3 := p2 hi'
        rw [List.length_append, hrl, List.length_singleton] at p3
        have a1 : ∀ j, j < i → lel y j = lel (traceL l) j := fun j hj => by
          have h1 : lel (y.take i) j = lel y j := by
            unfold lel
            simp only [List.getD_eq_getElem?_getD, List.getElem?_take, hj, if_true]
          have h2 : lel ((traceL l).take i) j = lel (traceL l) j := by
            unfold lel
            simp only [List.getD_eq_getElem?_getD, List.getElem?_take, hj, if_true]
          rw [← h1, p1, h2]
        have a3 : ∀ g, g < f + 1 → elt (lel y i) g = elt ((lel (traceL l) i).take f ++ [((n : Nat) : Int)]) g := fun g hg => by
          rw [← p3]
          unfold elt
          simp only [List.getD_eq_getElem?_getD, List.getElem?_take, hg, if_true]
        have a2 : ∀ g, g < f → elt (lel y i) g = elt (lel (traceL l) i) g := fun g hg => by
          rw [a3 g (by omega), elt_app (by rw [hrl]; exact hg)]
          unfold elt
          simp only [List.getD_eq_getElem?_getD, List.getElem?_take, hg, if_true]
        have a4 : elt (lel y i) f = ((n : Nat) : Int) := by
          rw [a3 f (Nat.lt_succ_self f)]
          have := elt_last (l := (lel (traceL l) i).take f) (r := ((n : Nat) : Int))
          rw [hrl] at this
          exact this
        have := top_le hl hp hvy hi' hf' a1 a2
        omega
      · have h' : trN l k ((traceL l).take i) ((lel (traceL l) i).take (f + 1)) (prefL l (traceL l) i (f + 1)) (prefN l (traceL l) i (f + 1)) = [] := hgo.symm.trans h
        rw [h'] at ih
        cases ih
theorem allL_last {l : Lg} (hl : LgOk l) (hp : prf l = none) : (allL l).getLast? = some (traceL l) := by
  have h := last_pref hl hp (allK l) 0 0 (Nat.zero_le _) (Nat.zero_le _) (by unfold allK; rw [Nat.sub_zero, Nat.sub_zero]; omega)
  have e1 : prefL l (traceL l) 0 0 = amtL l := by
    refine elt_ext (by rw [prefL_len]; unfold amtL; rw [List.length_map]) fun g hg => ?_
    rw [prefL_len] at hg
    rw [prefL_elt hg, amtL_elt hg, if_neg (Nat.not_lt_zero _)]
    show _ - (0 : Int) - 0 = _
    omega
  have e2 : prefN l (traceL l) 0 0 = nextA l 0 := by
    unfold nextA prefN
    by_cases hh : 0 < l.bs.length
    · rw [if_pos hh, if_pos hh, show sumF (elt (lel (traceL l) 0)) 0 = 0 from rfl, Int.sub_zero]
    · rw [if_neg hh, if_neg hh]
  rw [e1, e2, List.take_zero, List.take_zero] at h
  exact h
end Go.Proofs.Ytbbkeakbomngoaa
