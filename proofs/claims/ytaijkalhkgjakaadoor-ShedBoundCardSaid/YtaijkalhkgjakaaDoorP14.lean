/- The check of a plan: no error just where it is valid; the reference asks the same. Plainly. -/
import Derived.Test.YtaijkalhkgjakaaDoorP10
set_option linter.all false
set_option linter.unusedSimpArgs false
set_option linter.unusedVariables false
namespace Go.Proofs.YtaijkalhkgjakaaDoor
open Go.Av
theorem chkJ_zero {S:Sp} {p:List Sf} {i:Nat}:chkJ S p i=0 ↔ (0≤(pAt p i).w∧(pAt p i).w < S.ws.length)∧(S.wk (pAt p i).w.toNat).can (S.j i).s=true∧(0≤(pAt p i).d∧(pAt p i).d≤400) ∧
    ¬ (0≤befJ S.js (S.j i).f i∧(pAt p i).d < (pAt p (befJ S.js (S.j i).f i).toNat).d+(S.j (befJ S.js (S.j i).f i).toNat).d):=by
  unfold chkJ
  constructor
  · intro h
    split at h
    · exact absurd h (by decide)
    · rename_i h1
      split at h
      · exact absurd h (by decide)
      · rename_i h2
        split at h
        · exact absurd h (by decide)
        · rename_i h3
          split at h
          · exact absurd h (by decide)
          · rename_i h4
            exact ⟨Decidable.of_not_not h1,by simpa using h2,Decidable.of_not_not h3,h4⟩
  · rintro ⟨h1,h2,h3,h4⟩
    rw [if_neg (fun q=>q h1),if_neg (by rw [h2];decide),if_neg (fun q=>q h3),if_neg h4]
theorem chk_ord {S:Sp} (hS:S.Ok) {p:List Sf} {n:Nat} (hn:n≤S.js.length) (h:∀ k,k < n→chkJ S p k=0):∀ i,i < n→∀ k,k < i→(S.j k).f=(S.j i).f→(pAt p k).d+(S.j k).d≤(pAt p i).d:=by
  intro i
  induction i using Nat.strongRecOn with
  | _ i ih =>
    intro hi k hk hf
    have hz:=(chkJ_zero.1 (h i hi)).2.2.2
    rcases befJ_cases S.js (S.j i).f i with ⟨_,hno⟩|⟨b,e,hb,hfb,hl⟩
    · exact absurd hf (hno k hk)
    · rw [e,Int.toNat_natCast] at hz
      have hz:¬ (pAt p i).d < (pAt p b).d+(S.j b).d:=fun q=>hz ⟨by omega,q⟩
      by_cases hkb:k=b
      · subst hkb;omega
      · have hkb:k < b:=by
          rcases Nat.lt_or_gt_of_ne hkb with q|q
          · exact q
          · exact absurd hf (hl k q hk)
        have:=ih b hb (by omega) k hkb (by rw [hf];exact hfb.symm)
        have hd:=hS.d b (show b < S.js.length by omega)
        have e2:S.sch.d b=(S.j b).d:=rfl
        omega
theorem ord_iff {S:Sp} (hS:S.Ok) {p:List Sf} {i:Nat} (hi:i≤S.js.length) (h:∀ k,k < i→chkJ S p k=0) (f d:Int) :
    (∃ k,k < i∧(S.j k).f=f∧d < (pAt p k).d+(S.j k).d) ↔ (0≤befJ S.js f i∧d < (pAt p (befJ S.js f i).toNat).d+(S.j (befJ S.js f i).toNat).d):=by
  rcases befJ_cases S.js f i with ⟨e,hno⟩|⟨b,e,hb,hfb,hl⟩
  · constructor
    · rintro ⟨k,hk,hf,_⟩;exact absurd hf (hno k hk)
    · rintro ⟨h1,_⟩;omega
  · rw [e,Int.toNat_natCast]
    constructor
    · rintro ⟨k,hk,hf,hlt⟩
      refine ⟨by omega,?_⟩
      by_cases hkb:k=b
      · subst hkb;exact hlt
      · have hkb:k < b:=by
          rcases Nat.lt_or_gt_of_ne hkb with q|q
          · exact q
          · exact absurd hf (hl k q hk)
        have:=chk_ord hS hi h b hb k hkb (by rw [show (S.j b).f=f from hfb];exact hf)
        have hd:=hS.d b (show b < S.js.length by omega)
        have e2:S.sch.d b=(S.j b).d:=rfl
        omega
    · rintro ⟨_,hlt⟩;exact ⟨b,hb,hfb,hlt⟩
theorem chkP_vp {S:Sp} (hS:S.Ok) {p:List Sf}:chkP S p=0 ↔ VP S p:=by
  unfold chkP
  constructor
  · intro h
    split at h
    · exact absurd h (by decide)
    · rename_i hl
      have hl:p.length=S.js.length:=Decidable.of_not_not hl
      split at h
      · rename_i i hf
        have:=List.find?_some hf
        rw [decide_eq_true_eq] at this
        exact absurd h this
      · rename_i hf
        have hz:∀ k,k < S.js.length→chkJ S p k=0:=fun k hk=>by
          have:=List.find?_eq_none.1 hf k (List.mem_range.2 (by omega))
          simpa using this
        split at h
        · exact absurd h (by decide)
        · rename_i hcl
          refine ⟨hl,fun i hi=>?_,fun k i hki hi hfk=>chk_ord hS (Nat.le_refl _) hz i hi k hki hfk,fun k i hki hi hw=>?_⟩
          · obtain ⟨a,b,c,_⟩:=chkJ_zero.1 (hz i hi)
            exact ⟨a.1,a.2,b,c.1,c.2⟩
          · apply Classical.byContradiction
            intro hno
            apply hcl
            rw [List.any_eq_true]
            refine ⟨i,List.mem_range.2 (by omega),?_⟩
            rw [List.any_eq_true]
            refine ⟨k,List.mem_range.2 hki,?_⟩
            unfold clP
            simp only[Bool.and_eq_true,decide_eq_true_eq]
            omega
  · intro h
    have hl:=h.len
    rw [if_neg (fun q=>q hl)]
    have hz:∀ n,n≤S.js.length→∀ k,k < n→chkJ S p k=0:=by
      intro n
      induction n with
      | zero=>intro _ k hk;omega
      | succ n ih =>
        intro hn k hk
        have ih:=ih (by omega)
        by_cases e:k=n
        · subst e
          obtain ⟨a,b,c,d,e⟩:=h.w k (by omega)
          refine chkJ_zero.2 ⟨⟨a,b⟩,c,⟨d,e⟩,fun q=>?_⟩
          obtain ⟨j,hj,hf,hlt⟩:=(ord_iff hS (by omega) ih _ _).2 q
          have:=h.ord j k hj (by omega) hf
          omega
        · exact ih k (by omega)
    have hz:=hz _ (Nat.le_refl _)
    have hnone:(List.range p.length).find? (fun i=>decide (chkJ S p i ≠ 0))=none:=by
      rw [List.find?_eq_none]
      intro k hk
      have:=hz k (by have:=List.mem_range.1 hk;omega)
      simp [this]
    rw [hnone]
    dsimp only
    rw [if_neg]
    rw [List.any_eq_true]
    rintro ⟨i,hi,hh⟩
    rw [List.any_eq_true] at hh
    obtain ⟨k,hk,hc⟩:=hh
    have hi:=List.mem_range.1 hi
    have hk:=List.mem_range.1 hk
    unfold clP at hc
    simp only[Bool.and_eq_true,decide_eq_true_eq] at hc
    have:=h.clash k i hk (by omega) hc.1.1.symm
    omega
end Go.Proofs.YtaijkalhkgjakaaDoor
