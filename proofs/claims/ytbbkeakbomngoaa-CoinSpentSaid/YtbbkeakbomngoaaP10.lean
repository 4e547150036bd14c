/- Contracts of functions that the claim reaches: what each call gives, told in our own logic. Conditions: those of each theorem. -/
import Derived.Test.YtbbkeakbomngoaaP9
import Derived.Test.YtbbkeakbomngoaaG42
import Derived.Test.YtbbkeakbomngoaaG31
set_option linter.all false
set_option linter.unusedSimpArgs false
set_option linter.unusedVariables false
namespace Go.Proofs.Ytbbkeakbomngoaa
open Go.Av
set_option maxRecDepth 20000
/-! ### All traces, and what they take from a fund -/
theorem allL_valid {l : Lg} (hl : LgOk l) {x : List (List Int)} : x ∈ allL l ↔ Valid l x := by
  constructor
  · refine trN_sound hl _ _ _ _ _ ⟨Nat.zero_le _, fun i hi => absurd hi (Nat.not_lt_zero _), Nat.zero_le _, fun f => by rw [elt_nil]; omega, fun f hf => by rw [elt_nil] at hf; omega, fun _ => rfl, fun h => ?_, nextA_nn hl _, show (amtL l).length = l.fs.length from List.length_map _, fun f hf => ?_, fun f hf => ?_⟩ x
    · have h' : 0 < l.bs.length := h
      unfold nextA
      rw [if_pos h', sumF_zero (fun i _ => elt_nil i)]
      show _ = (bl l.bs 0).amt - 0
      omega
    · show elt (amtL l) f = _
      rw [amtL_elt hf, elt_nil]
      show _ = _ - (0 : Int) - 0
      omega
    · show 0 ≤ elt (amtL l) f
      rw [amtL_elt hf]; exact (hl.f _ (fd_mem hf)).amt.1
  · intro hv
    have h := trN_complete hv (allK l) 0 0 (Nat.zero_le _) (Nat.zero_le _) (by unfold allK; rw [Nat.sub_zero, Nat.sub_zero]; omega)
    have e1 : prefL l x 0 0 = amtL l := by
      refine elt_ext (by rw [prefL_len]; unfold amtL; rw [List.length_map]) fun g hg => ?_
      rw [prefL_len] at hg
      rw [prefL_elt hg, amtL_elt hg, if_neg (Nat.not_lt_zero _)]
      show _ - (0 : Int) - 0 = _
      omega
    have e2 : prefN l x 0 0 = nextA l 0 := by
      unfold nextA prefN
      by_cases hh : 0 < l.bs.length
      · rw [if_pos hh, if_pos hh, show sumF (elt (lel x 0)) 0 = 0 from rfl, Int.sub_zero]
      · rw [if_neg hh, if_neg hh]
    rw [e1, e2, List.take_zero, List.take_zero] at h
    exact h
/-- What a table takes from a fund. -/
def colV (l : Lg) (x : List (List Int)) (f : Nat) : Int := sumF (fun i => elt (lel x i) f) l.bs.length
theorem valid_slack {l : Lg} {x : List (List Int)} (hv : Valid l x) {r : List Int} (hr : ∀ f, f < l.fs.length → colV l x f ≤ r.getD f 0) (s : Int) : 0 ≤ slackB l r s := by
  have h1 : dueB l s = sumF (fun f => sumF (fun i => if hasB s (i : Nat) = true then elt (lel x i) f else 0) l.bs.length) l.fs.length := by
    rw [← sumF_swap (fun i f => if hasB s (i : Nat) = true then elt (lel x i) f else 0)]
    unfold dueB
    refine sumF_congr fun i hi => ?_
    unfold dueF
    rw [← (hv.row i hi).sum]
    cases hb : hasB s ((i : Nat) : Int)
    · rw [if_neg (by simp)]
      exact (sumF_zero (fun f _ => by simp)).symm
    · rw [if_pos rfl]
      exact sumF_congr fun f _ => by simp
  have h2 : dueB l s ≤ sumF (givF l r s) l.fs.length := by
    rw [h1]
    refine sumF_mono fun f hf => ?_
    unfold givF
    by_cases hp : payerB l f s = true
    · rw [if_pos hp]
      refine Int.le_trans (sumF_mono fun i hi => ?_) (hr f hf)
      split
      · exact Int.le_refl _
      · exact (hv.row i hi).nn f
    · rw [if_neg hp]
      refine Int.le_of_eq (sumF_zero fun i hi => ?_)
      split
      · rename_i hb
        have h0 := (hv.row i hi).nn f
        by_cases hz : 0 < elt (lel x i) f
        · exact absurd (List.any_eq_true.2 ⟨i, List.mem_range.2 hi, by rw [hb, (hv.row i hi).can f hz]; rfl⟩) hp
        · omega
      · rfl
  unfold slackB
  omega
theorem slack_set {l : Lg} (hl : LgOk l) {k : Nat} (hk : k < l.fs.length) (v : Int) (s : Int) : slackB l ((amts l.fs).set k v) s = slackB l (othR l k) s + (if payerB l k s then v else 0) := by
  have hfn := hl.fn
  have h1 := sumF_one (F := givF l ((amts l.fs).set k v) s) (G := givF l (othR l k) s) (k := k) (n := l.fs.length) hk (fun i hi hik => by
    unfold givF othR
    simp only [List.getD_eq_getElem?_getD]
    rw [List.getElem?_set_ne (fun e => hik e.symm), List.getElem?_set_ne (fun e => hik e.symm)])
  have e1 : givF l ((amts l.fs).set k v) s k = if payerB l k s then v else 0 := by
    unfold givF
    simp only [List.getD_eq_getElem?_getD]
    rw [List.getElem?_set_self (by rw [amts_len]; omega)]
    simp
  have e2 : givF l (othR l k) s k = 0 := by
    unfold givF othR
    simp only [List.getD_eq_getElem?_getD]
    rw [List.getElem?_set_self (by rw [amts_len]; omega)]
    simp
  unfold slackB
  rw [h1, e1, e2]
  split <;> omega
theorem loN_ge (l : Lg) (k : Nat) : ∀ N j, j < N → 0 - slackB l (othR l k) ((j : Nat) : Int) ≤ loN l k N
  | 0, j, h => absurd h (Nat.not_lt_zero _)
  | N + 1, j, h => by
    unfold loN
    by_cases e : j = N
    · subst e; omega
    · have := loN_ge l k N j (by omega); omega
theorem loN_le {l : Lg} {k : Nat} {v : Int} (h0 : 0 ≤ v) (h : ∀ j : Nat, 0 - slackB l (othR l k) ((j : Nat) : Int) ≤ v) : ∀ N, loN l k N ≤ v
  | 0 => h0
  | N + 1 => by
    have h1 := loN_le h0 h N
    have h2 := h N
    unfold loN
    omega
theorem lo_le {l : Lg} (hl : LgOk l) {x : List (List Int)} (hv : Valid l x) {k : Nat} (hk : k < l.fs.length) (N : Nat) : loN l k N ≤ colV l x k := by
  have hfn := hl.fn
  have h0 : 0 ≤ colV l x k := sumF_nn fun i hi => (hv.row i hi).nn k
  refine loN_le h0 (fun j => ?_) N
  have h1 := valid_slack hv (r := (amts l.fs).set k (colV l x k)) (fun f hf => by
    rw [List.getD_eq_getElem?_getD]
    by_cases e : k = f
    · subst e; rw [List.getElem?_set_self (by rw [amts_len]; omega)]; exact Int.le_refl _
    · rw [List.getElem?_set_ne e, ← List.getD_eq_getElem?_getD, amts_get (by omega)]; exact hv.col f hf) ((j : Nat) : Int)
  rw [slack_set hl hk] at h1
  split at h1 <;> omega
theorem hi_le {l : Lg} {x : List (List Int)} (hv : Valid l x) {k : Nat} (hk : k < l.fs.length) : colV l x k ≤ min (fd l.fs k).amt (sumF (spF l k) l.bs.length) := by
  have h1 := hv.col k hk
  have h2 : colV l x k ≤ sumF (spF l k) l.bs.length := by
    refine sumF_mono fun i hi => ?_
    have hr := hv.row i hi
    have h3 := sumF_term (F := elt (lel x i)) (n := l.fs.length) hk (fun f _ => hr.nn f)
    rw [hr.sum] at h3
    unfold spF
    cases hp : payB (fd l.fs k) (bl l.bs i)
    · have : ¬ 0 < elt (lel x i) k := fun h => by rw [hr.can k h] at hp; cases hp
      simp only [Bool.false_eq_true, if_false]; omega
    · simp only [if_true]; exact h3
  unfold colV at h2 ⊢
  omega
theorem trace_valid {l : Lg} (hl : LgOk l) (hp : prf l = none) : Valid l (traceL l) := by
  have hlen : (traceL l).length = l.bs.length := by unfold traceL; simp
  have hget : ∀ i, i < l.bs.length → lel (traceL l) i = rowN l i := fun i hi => by
    unfold lel traceL
    simp [List.getD_eq_getElem?_getD, hi]
  have hrl : ∀ i, i < l.bs.length → (rowW l i).length = 8 := fun i hi => by
    obtain ⟨h1, h2⟩ := rsN_ok hl hp i (by omega)
    exact (tsN_ok hl hi h1 h2 l.fs.length (Nat.le_refl _)).len
  have hfn := hl.fn
  have helt : ∀ i f, i < l.bs.length → elt (rowN l i) f = elt (rowW l i) f := fun i f hi => by
    by_cases hf : f < l.fs.length
    · show elt ((rowW l i).take l.fs.length) f = _
      unfold elt
      simp only [List.getD_eq_getElem?_getD, List.getElem?_take, hf, if_true]
    · have h1 : elt (rowN l i) f = 0 := elt_out (by show ((rowW l i).take l.fs.length).length ≤ f; rw [List.length_take]; omega)
      have h2 := row_nn hl hp hi f
      by_cases hz : 0 < elt (rowW l i) f
      · exact absurd (row_can hl hp hi hz).1 hf
      · omega
  have hcol : ∀ f m, m ≤ l.bs.length → sumF (fun i => elt (lel (traceL l) i) f) m = elt (rsN l 0) f - elt (rsN l m) f := by
    intro f m
    induction m with
    | zero => intro _; show (0 : Int) = _; omega
    | succ m ih =>
      intro hm
      show sumF _ m + elt (lel (traceL l) m) f = _
      rw [ih (by omega), hget m (by omega), helt m f (by omega), rest_step hl hp (by omega : m < l.bs.length) f]; omega
  refine ⟨hlen, fun i hi => ?_, fun f hf => ?_⟩
  · rw [hget i hi]
    refine ⟨?_, fun f => by rw [helt i f hi]; exact row_nn hl hp hi f, fun f hf => ?_, ?_⟩
    · show ((rowW l i).take l.fs.length).length = _
      rw [List.length_take, hrl i hi]; omega
    · rw [helt i f hi] at hf; exact (row_can hl hp hi hf).2
    · rw [sumF_congr fun f _ => helt i f hi]; exact row_sum hl hp hi
  · rw [hcol f _ (Nat.le_refl _)]
    have h1 := rest_nn hl hp l.bs.length (Nat.le_refl _) f (by omega)
    have h2 : elt (rsN l 0) f = (fd l.fs f).amt := amts_get (by omega)
    omega
theorem none_of_valid {l : Lg} (hl : LgOk l) {x : List (List Int)} (hv : Valid l x) : prf l = none := by
  have hfn := hl.fn
  exact prf_none_of fun s => valid_slack hv (fun f hf => by rw [amts_get (by omega)]; exact hv.col f hf) s
theorem lo_amt {l : Lg} (hl : LgOk l) (hp : prf l = none) {k : Nat} (hk : k < l.fs.length) (N : Nat) : loN l k N ≤ (fd l.fs k).amt := by
  have ha := (hl.f _ (fd_mem hk)).amt
  refine loN_le ha.1 (fun j => ?_) N
  have h1 := oth_slack hl hk ((j : Nat) : Int)
  have h2 := all_nn hl hp ((j : Nat) : Int)
  rw [h1]
  split <;> omega
theorem lo_at {l : Lg} (hl : LgOk l) (hp : prf l = none) {k : Nat} (hk : k < l.fs.length) : ∃ x, Valid l x ∧ colV l x k = loN l k (2 ^ l.bs.length) := by
  have hfn := hl.fn
  have hbn := hl.bn
  have hL := lo_amt hl hp hk (2 ^ l.bs.length)
  have hL0 := (loN_bd hl k (2 ^ l.bs.length)).1
  have hge := loN_ge l k (2 ^ l.bs.length)
  have ha := (hl.f _ (fd_mem hk)).amt
  have hlow := fun (x : List (List Int)) (hv : Valid l x) => lo_le hl hv hk (2 ^ l.bs.length)
  generalize hLL : loN l k (2 ^ l.bs.length) = L at *
  have hget : ∀ f, f < l.fs.length → ((amts l.fs).set k L).getD f 0 = if k = f then L else (fd l.fs f).amt := fun f hf => by
    rw [List.getD_eq_getElem?_getD]
    by_cases e : k = f
    · subst e; rw [if_pos rfl, List.getElem?_set_self (by rw [amts_len]; omega)]; rfl
    · rw [if_neg e, List.getElem?_set_ne e, ← List.getD_eq_getElem?_getD, amts_get (by omega)]
  have hrs : RsOk ((amts l.fs).set k L) := by
    refine ⟨by rw [List.length_set]; exact amts_len _, fun i hi => ?_⟩
    rw [List.getD_eq_getElem?_getD]
    by_cases e : k = i
    · subst e; rw [List.getElem?_set_self (by rw [amts_len]; omega)]
      show 0 ≤ L ∧ L ≤ 1000000000; omega
    · rw [List.getElem?_set_ne e, ← List.getD_eq_getElem?_getD]; exact (amtsOk hl).2 i hi
  have hl' := restOk hl hrs
  have hp' : prf ⟨restF l ((amts l.fs).set k L), l.bs⟩ = none := by
    refine cov_none hbn fun j hj => ?_
    have h1 := slack_rest (l := l) (rs := (amts l.fs).set k L) hfn ((j : Nat) : Int)
    have h2 := slack_set hl hk L ((j : Nat) : Int)
    have h3 := hge j hj
    have h4 := oth_slack hl hk ((j : Nat) : Int)
    have h5 := all_nn hl hp ((j : Nat) : Int)
    show 0 ≤ slackB ⟨restF l ((amts l.fs).set k L), l.bs⟩ (amts (restF l ((amts l.fs).set k L))) ((j : Nat) : Int)
    rw [h1, h2]
    split
    · omega
    · rename_i hq
      rw [if_neg hq] at h4; omega
  have hv' := trace_valid hl' hp'
  have hfl : (restF l ((amts l.fs).set k L)).length = l.fs.length := restF_len _ _
  have hamt : ∀ f, f < l.fs.length → (fd (restF l ((amts l.fs).set k L)) f).amt = if k = f then L else (fd l.fs f).amt := fun f hf => by rw [fd_restF hf]; exact hget f hf
  have hv : Valid l (traceL ⟨restF l ((amts l.fs).set k L), l.bs⟩) := by
    refine ⟨hv'.len, fun i hi => ?_, fun f hf => ?_⟩
    · have hr := hv'.row i hi
      refine ⟨hr.len.trans hfl, hr.nn, fun f hf => ?_, ?_⟩
      · have h1 := hr.can f hf
        have hfl' : f < l.fs.length := by
          refine Nat.lt_of_not_le fun h => ?_
          rw [elt_out (by rw [hr.len]; show (restF l _).length ≤ f; rw [hfl]; exact h)] at hf
          omega
        have h2 : payB (fd (restF l ((amts l.fs).set k L)) f) (bl l.bs i) = true := h1
        rw [fd_restF hfl'] at h2
        exact h2
      · have h1 := hr.sum
        have h2 : (⟨restF l ((amts l.fs).set k L), l.bs⟩ : Lg).fs.length = l.fs.length := hfl
        rw [h2] at h1
        exact h1
    · have h1 := hv'.col f (by show f < (restF l _).length; rw [hfl]; exact hf)
      have h2 : sumF (fun i => elt (lel (traceL ⟨restF l ((amts l.fs).set k L), l.bs⟩) i) f) l.bs.length ≤ (fd (restF l ((amts l.fs).set k L)) f).amt := h1
      rw [hamt f hf] at h2
      split at h2
      · rename_i e; subst e; omega
      · exact h2
  refine ⟨_, hv, ?_⟩
  have h1 := hv'.col k (by show k < (restF l _).length; rw [hfl]; exact hk)
  have h2 : colV l (traceL ⟨restF l ((amts l.fs).set k L), l.bs⟩) k ≤ (fd (restF l ((amts l.fs).set k L)) k).amt := h1
  rw [hamt k hk, if_pos rfl] at h2
  have h3 := hlow _ hv
  omega
theorem lel_set {t : List (List Int)} {i : Nat} (hi : i < t.length) (r : List Int) (j : Nat) : lel (t.set i r) j = if j = i then r else lel t j := by
  unfold lel
  simp only [List.getD_eq_getElem?_getD, List.getElem?_set]
  by_cases e : i = j
  · subst e; rw [if_pos rfl, if_pos rfl, if_pos hi]; rfl
  · rw [if_neg e, if_neg (fun h => e h.symm)]
theorem hi_step {l : Lg} {x : List (List Int)} (hv : Valid l x) {k : Nat} (hk : k < l.fs.length) (h1 : colV l x k < (fd l.fs k).amt) (h2 : colV l x k < sumF (spF l k) l.bs.length) : ∃ y, Valid l y ∧ colV l y k = colV l x k + 1 := by
  have hex : ∃ i, i < l.bs.length ∧ elt (lel x i) k < spF l k i := by
    refine Classical.byContradiction fun hn => ?_
    have : sumF (spF l k) l.bs.length ≤ colV l x k := sumF_mono fun i hi => by
      refine Int.le_of_not_gt fun hlt => hn ⟨i, hi, hlt⟩
    omega
  obtain ⟨i, hi, hlt⟩ := hex
  have hr := hv.row i hi
  have hxl := hv.len
  have h0 := hr.nn k
  have hpay : payB (fd l.fs k) (bl l.bs i) = true := by
    unfold spF at hlt
    split at hlt
    · assumption
    · omega
  have hlt' : elt (lel x i) k < (bl l.bs i).amt := by
    unfold spF at hlt
    rw [if_pos hpay] at hlt; exact hlt
  have hex2 : ∃ g, g < l.fs.length ∧ g ≠ k ∧ 0 < elt (lel x i) g := by
    refine Classical.byContradiction fun hn => ?_
    have h3 := sumF_one (F := elt (lel x i)) (G := fun _ => 0) (k := k) (n := l.fs.length) hk (fun g hg hgk => by
      have := hr.nn g
      by_cases hz : 0 < elt (lel x i) g
      · exact absurd ⟨g, hg, hgk, hz⟩ hn
      · omega)
    rw [sumF_zero (fun _ _ => rfl), hr.sum] at h3
    omega
  obtain ⟨g, hg, hgk, hgp⟩ := hex2
  have hrl := hr.len
  have e1 : ∀ f, elt ((lel x i).set k (elt (lel x i) k + 1)) f = if f = k then elt (lel x i) k + 1 else elt (lel x i) f := fun f => elt_set (by omega) f
  have e2 : ∀ f, elt (((lel x i).set k (elt (lel x i) k + 1)).set g (elt (lel x i) g - 1)) f = if f = g then elt (lel x i) g - 1 else if f = k then elt (lel x i) k + 1 else elt (lel x i) f := fun f => by
    rw [elt_set (by rw [List.length_set]; omega), e1]
  have hlen' : (((lel x i).set k (elt (lel x i) k + 1)).set g (elt (lel x i) g - 1)).length = l.fs.length := by rw [List.length_set, List.length_set]; exact hrl
  have hs1 := sumF_one (F := elt ((lel x i).set k (elt (lel x i) k + 1))) (G := elt (lel x i)) (k := k) (n := l.fs.length) hk (fun f _ hf => by rw [e1, if_neg hf])
  have hs2 := sumF_one (F := elt (((lel x i).set k (elt (lel x i) k + 1)).set g (elt (lel x i) g - 1))) (G := elt ((lel x i).set k (elt (lel x i) k + 1))) (k := g) (n := l.fs.length) hg (fun f _ hf => by rw [e2, if_neg hf, e1])
  rw [e1, if_pos rfl] at hs1
  rw [e2, if_pos rfl, e1, if_neg hgk] at hs2
  generalize hr' : ((lel x i).set k (elt (lel x i) k + 1)).set g (elt (lel x i) g - 1) = r' at *
  have hlel : ∀ j, lel (x.set i r') j = if j = i then r' else lel x j := fun j => lel_set (by omega) r' j
  have hcol : ∀ f, colV l (x.set i r') f = colV l x f + (elt r' f - elt (lel x i) f) := fun f => by
    unfold colV
    have h3 := sumF_one (F := fun j => elt (lel (x.set i r') j) f) (G := fun j => elt (lel x j) f) (k := i) (n := l.bs.length) hi (fun j _ hj => by rw [hlel, if_neg hj])
    rw [hlel, if_pos rfl] at h3
    exact h3
  refine ⟨x.set i r', ⟨by rw [List.length_set]; exact hxl, fun j hj => ?_, fun f hf => ?_⟩, ?_⟩
  · rw [hlel]
    split
    · rename_i e
      subst e
      refine ⟨hlen', fun f => ?_, fun f hf => ?_, ?_⟩
      · rw [e2]; have := hr.nn f
        split
        · omega
        · split <;> omega
      · rw [e2] at hf
        split at hf
        · rename_i e; rw [e]; exact hr.can g hgp
        · split at hf
          · rename_i e; rw [e]; exact hpay
          · exact hr.can f hf
      · rw [hs2, hs1, hr.sum]; omega
    · exact hv.row j hj
  · show colV l (x.set i r') f ≤ _
    have h3 := hv.col f hf
    have h3' : colV l x f ≤ (fd l.fs f).amt := h3
    rw [hcol, e2]
    split
    · rename_i e; subst e; omega
    · split
      · rename_i e; subst e; omega
      · omega
  · rw [hcol, e2, if_neg (fun h => hgk h.symm), if_pos rfl]; omega
theorem hi_at {l : Lg} {k : Nat} (hk : k < l.fs.length) : ∀ (d : Nat) (x : List (List Int)), Valid l x → (min (fd l.fs k).amt (sumF (spF l k) l.bs.length) - colV l x k).toNat = d → ∃ y, Valid l y ∧ colV l y k = min (fd l.fs k).amt (sumF (spF l k) l.bs.length)
  | 0, x, hv, h => ⟨x, hv, by have := hi_le hv hk; omega⟩
  | d + 1, x, hv, h => by
    obtain ⟨y, hy, e⟩ := hi_step hv hk (by omega) (by omega)
    exact hi_at hk d y hy (by omega)
end Go.Proofs.Ytbbkeakbomngoaa
