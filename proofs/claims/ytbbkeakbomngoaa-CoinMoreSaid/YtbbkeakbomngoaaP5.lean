/- Contracts of functions that the claim reaches: what each call gives, told in our own logic. Conditions: those of each theorem. -/
import Derived.Test.YtbbkeakbomngoaaGR
import Derived.Test.YtbbkeakbomngoaaG17
set_option linter.all false
set_option linter.unusedSimpArgs false
set_option linter.unusedVariables false
namespace Go.Proofs.Ytbbkeakbomngoaa
open Go.Av
set_option maxRecDepth 20000
/-! ### More money, fewer bills: plain -/
theorem prf_none_of {l : Lg} (h : ∀ s, 0 ≤ slackB l (amts l.fs) s) : prf l = none := by
  unfold prf
  refine List.find?_eq_none.2 fun s _ => ?_
  have := h s
  simp only [shortB, decide_eq_true_eq]
  omega
theorem canN_uses {x y : Fd} (h : y.uses = x.uses) (u : Int) : ∀ i, canN y u i = canN x u i
  | 0 => rfl
  | i + 1 => by unfold canN; rw [canN_uses h u i, h]
structure More (x y : Fd) : Prop where
  day : 0 ≤ y.day ∧ y.day ≤ x.day
  till : x.till ≤ y.till ∧ y.till ≤ 3650
  amt : x.amt ≤ y.amt ∧ y.amt ≤ x.amt + 9
  uses : y.uses = x.uses ∨ y.uses = [0, 1, 2, 7]
theorem more_fundE {x y : Fd} {C : Int} (h : FdGood x C) (hC : C ≤ 100000) (hM : More x y) : fundE y = 0 := by
  have h1 := h.day; have h2 := h.till; have h3 := h.amt; have h4 := h.us.len
  have m1 := hM.day; have m2 := hM.till; have m3 := hM.amt
  have hx := fundE_good h hC
  unfold fundE at hx ⊢
  rw [if_neg (by omega), if_neg (by omega), if_neg (by omega), if_neg (by omega)] at hx
  rcases hM.uses with e | e
  · rw [e, if_neg (by omega), if_neg (by omega), if_neg (by omega), if_neg (by omega)]; exact hx
  · rw [e, if_neg (by omega), if_neg (by omega), if_neg (by omega), if_neg (by simp)]; decide
theorem more_pay {x y : Fd} {b : Bl} {C D : Int} (h : FdGood x C) (hC : C ≤ 100000) (hM : More x y) (hb : BlGood b D) (hD : D ≤ 100000) (hp : payB x b = true) : payB y b = true := by
  have u1 := hb.use
  have ok : BlOk b := ⟨by have := hb.day; omega, by omega, by have := hb.amt; omega⟩
  rw [← canB_pay (fundOk (fundE_good h hC)) ok] at hp
  rw [← canB_pay (fundOk (more_fundE h hC hM)) ok]
  unfold canB at hp ⊢
  rw [Bool.and_eq_true, decide_eq_true_eq] at hp ⊢
  have m1 := hM.day; have m2 := hM.till
  refine ⟨?_, by omega⟩
  rcases hM.uses with e | e
  · rw [canN_uses e, e]; exact hp.1
  · rw [e]
    have : b.use = 0 ∨ b.use = 1 ∨ b.use = 2 := by omega
    simp only [List.length_cons, List.length_nil, canN, e, elt]
    rcases this with h | h | h <;> rw [h] <;> rfl
theorem more_slack {l : Lg} (hn : l.fs.length ≤ 8) {F : List Fd} (hl : F.length = l.fs.length)
    (h : ∀ k, k < l.fs.length → 0 ≤ (fd l.fs k).amt ∧ (fd l.fs k).amt ≤ (fd F k).amt ∧ ∀ i, i < l.bs.length → payB (fd l.fs k) (bl l.bs i) = true → payB (fd F k) (bl l.bs i) = true) (s : Int) :
    slackB l (amts l.fs) s ≤ slackB ⟨F, l.bs⟩ (amts F) s := by
  have hd : dueB ⟨F, l.bs⟩ s = dueB l s := rfl
  have hg : sumF (givF l (amts l.fs) s) l.fs.length ≤ sumF (givF ⟨F, l.bs⟩ (amts F) s) l.fs.length := by
    refine sumF_mono fun k hk => ?_
    obtain ⟨h1, h2, h3⟩ := h k hk
    unfold givF
    rw [amts_get (by omega), amts_get (by omega)]
    by_cases hp : payerB l k s = true
    · have hp' : payerB ⟨F, l.bs⟩ k s = true := by
        unfold payerB at hp ⊢
        rw [List.any_eq_true] at hp ⊢
        obtain ⟨i, hi, hpi⟩ := hp
        refine ⟨i, hi, ?_⟩
        rw [Bool.and_eq_true] at hpi ⊢
        exact ⟨hpi.1, h3 i (List.mem_range.1 hi) hpi.2⟩
      rw [if_pos hp, if_pos hp']; exact h2
    · rw [if_neg hp]
      split <;> omega
  have e1 : slackB l (amts l.fs) s = sumF (givF l (amts l.fs) s) l.fs.length - dueB l s := rfl
  have e2 : slackB ⟨F, l.bs⟩ (amts F) s = sumF (givF ⟨F, l.bs⟩ (amts F) s) F.length - dueB ⟨F, l.bs⟩ s := rfl
  rw [e1, e2, hd, hl]
  omega
theorem all_nn {l : Lg} (hl : LgOk l) (hp : prf l = none) (s : Int) : 0 ≤ slackB l (amts l.fs) s := by
  rw [slack_pr]; exact slack_nn hl hp _
theorem more_none {l : Lg} (hg : LgGood l 5 5 50) (hp : prf l = none) {F : List Fd} (hl : F.length = l.fs.length) (hM : ∀ k, k < l.fs.length → More (fd l.fs k) (fd F k)) :
    chkE ⟨F, l.bs⟩ = 0 ∧ prf ⟨F, l.bs⟩ = none := by
  have h0 := chkE_good hg (by omega) (by omega) (by omega)
  have hk := ledgerOk h0
  have hn := hg.fn
  constructor
  · have e : fundsE ⟨F, l.bs⟩ = 0 := firstE_ok fun i _ hi => more_fundE (hg.f _ (fd_mem (by simp only at hi; omega))) (by omega) (hM i (by simp only at hi; omega))
    unfold chkE at h0 ⊢
    rw [if_neg (by simp only; omega), e, if_neg (by simp)]
    split at h0
    · omega
    · split at h0
      · omega
      · exact h0
  · refine prf_none_of fun s => ?_
    have h1 := all_nn hk hp s
    have h2 := more_slack (l := l) (by omega) hl (fun k hk' => ⟨(hg.f _ (fd_mem hk')).amt.1, (hM k hk').amt.1, fun i hi => more_pay (hg.f _ (fd_mem hk')) (by omega) (hM k hk') (hg.b _ (bl_mem hi)) (by omega)⟩) s
    show 0 ≤ slackB ⟨F, l.bs⟩ (amts F) s
    omega
/-- A list without one of its elements. -/
theorem bl_rm (bs : List Bl) {k : Nat} (hk : k < bs.length) (i : Nat) : bl (bs.take k ++ bs.drop (k + 1)) i = bl bs (if i < k then i else i + 1) := by
  unfold bl
  simp only [List.getD_eq_getElem?_getD]
  by_cases h : i < k
  · rw [if_pos h, List.getElem?_append_left (by rw [List.length_take]; omega), List.getElem?_take, if_pos h]
  · rw [if_neg h, List.getElem?_append_right (by rw [List.length_take]; omega), List.getElem?_drop, List.length_take, Nat.min_eq_left (by omega), show k + 1 + (i - k) = i + 1 by omega]
theorem sumF_rm {G : Nat → Int} {k : Nat} (hG : G k = 0) : ∀ {n : Nat}, k < n → sumF (fun i => if i < k then G i else G (i + 1)) (n - 1) = sumF G n := by
  intro n
  induction n with
  | zero => intro h; omega
  | succ n ih =>
    intro h
    show sumF _ n = sumF G n + G n
    by_cases e : k = n
    · subst e
      rw [hG, Int.add_zero]
      exact sumF_congr fun i hi => by rw [if_pos hi]
    · have := ih (by omega)
      obtain ⟨m, rfl⟩ : ∃ m, n = m + 1 := ⟨n - 1, by omega⟩
      show sumF _ m + _ = _
      rw [show m + 1 - 1 = m by omega] at this
      rw [this]
      dsimp only
      rw [if_neg (by omega)]
theorem less_none {l : Lg} (hg : LgGood l 5 5 50) (hp : prf l = none) {k : Nat} (hk : k < l.bs.length) :
    chkE ⟨l.fs, l.bs.take k ++ l.bs.drop (k + 1)⟩ = 0 ∧ prf ⟨l.fs, l.bs.take k ++ l.bs.drop (k + 1)⟩ = none := by
  have h0 := chkE_good hg (by omega) (by omega) (by omega)
  have hko := ledgerOk h0
  have hn := hg.bn
  have hln : (l.bs.take k ++ l.bs.drop (k + 1)).length = l.bs.length - 1 := by rw [List.length_append, List.length_take, List.length_drop]; omega
  constructor
  · refine chkE_good (F := 5) (B := 5) (C := 50) ⟨hg.fn, by show ((l.bs.take k ++ l.bs.drop (k + 1)).length : Int) ≤ 5; omega, hg.f, fun x hx => ?_⟩ (by omega) (by omega) (by omega)
    rcases List.mem_append.1 hx with h | h
    · exact hg.b x (List.mem_of_mem_take h)
    · exact hg.b x (List.mem_of_mem_drop h)
  · refine prf_none_of fun s => ?_
    let S := bitS s
    let U : Nat → Bool := fun i => if i < k then S i else if i = k then false else S (i - 1)
    have h1 := slack_nn hko hp U
    rw [slack_pr]
    have hU : ∀ i, U (if i < k then i else i + 1) = S i := fun i => by
      by_cases h : i < k
      · simp only [U, h, if_true]
      · simp only [U, h, if_false]
        rw [if_neg (by omega), if_neg (by omega), Nat.add_sub_cancel]
    have hUk : U k = false := by simp [U]
    have hpay : ∀ f, (Lg.pr ⟨l.fs, l.bs.take k ++ l.bs.drop (k + 1)⟩).pay f S = l.pr.pay f U := fun f => by
      rw [Bool.eq_iff_iff, Pr.pay_iff, Pr.pay_iff]
      constructor
      · rintro ⟨i, hi, hs, hc⟩
        have hi' : i < l.bs.length - 1 := by rw [← hln]; exact hi
        have hc' : payB (fd l.fs f) (bl (l.bs.take k ++ l.bs.drop (k + 1)) i) = true := hc
        rw [bl_rm _ hk] at hc'
        refine ⟨if i < k then i else i + 1, ?_, by rw [hU]; exact hs, hc'⟩
        show _ < l.bs.length
        split <;> omega
      · rintro ⟨j, hj, hs, hc⟩
        have hj' : j < l.bs.length := hj
        have hjk : j ≠ k := fun e => by rw [e, hUk] at hs; cases hs
        have hc' : payB (fd l.fs f) (bl l.bs j) = true := hc
        refine ⟨if j < k then j else j - 1, ?_, ?_, ?_⟩
        · show _ < (l.bs.take k ++ l.bs.drop (k + 1)).length
          rw [hln]; split <;> omega
        · rw [← hU]
          by_cases h : j < k
          · rw [if_pos h, if_pos h]; exact hs
          · rw [if_neg h, if_neg (by omega), show j - 1 + 1 = j by omega]; exact hs
        · show payB (fd l.fs f) (bl (l.bs.take k ++ l.bs.drop (k + 1)) _) = true
          rw [bl_rm _ hk]
          by_cases h : j < k
          · rw [if_pos h, if_pos h]; exact hc'
          · rw [if_neg h, if_neg (by omega), show j - 1 + 1 = j by omega]; exact hc'
    have hdue : (Lg.pr ⟨l.fs, l.bs.take k ++ l.bs.drop (k + 1)⟩).due S = l.pr.due U := by
      unfold Pr.due
      have h2 := sumF_rm (G := fun i => if U i then (bl l.bs i).amt else 0) (k := k) (by simp only [hUk]; rfl) (n := l.bs.length) hk
      show sumF (fun i => if S i then (bl (l.bs.take k ++ l.bs.drop (k + 1)) i).amt else 0) (l.bs.take k ++ l.bs.drop (k + 1)).length = sumF (fun i => if U i then (bl l.bs i).amt else 0) l.bs.length
      rw [hln, ← h2]
      refine sumF_congr fun i hi => ?_
      rw [bl_rm _ hk, ← hU]
      by_cases h : i < k
      · rw [if_pos h, if_pos h]
      · rw [if_neg h, if_neg h]
    have hhas : (Lg.pr ⟨l.fs, l.bs.take k ++ l.bs.drop (k + 1)⟩).has (rF (amts l.fs)) S = l.pr.has (rF (amts l.fs)) U := by
      unfold Pr.has
      exact sumF_congr fun f hf => by rw [hpay]
    show 0 ≤ (Lg.pr ⟨l.fs, l.bs.take k ++ l.bs.drop (k + 1)⟩).slack (rF (amts l.fs)) S
    unfold Pr.slack at h1 ⊢
    rw [hhas, hdue]
    exact h1
end Go.Proofs.Ytbbkeakbomngoaa
