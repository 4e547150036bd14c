/- Contracts of functions that the claim reaches: what each call gives, told in our own logic. Conditions: those of each theorem. -/
import Derived.Test.YtaijkalhkgjakaaGreatDoorW12
set_option linter.all false
set_option linter.unusedSimpArgs false
set_option linter.unusedVariables false
namespace Go.Proofs.YtaijkalhkgjakaaGreatDoor
open Go.Av Go.Txt Go.Lib
set_option maxRecDepth 20000
def HasR (row word:List UInt8) (n:Nat) (l:List Int):Prop:=rowP 3 row=some (word,l)∧l.length=n
theorem nr_yes {row word:List UInt8} {n:Nat} {l:List Int} (h:HasR row word n l):nrV row word (n:Int)=.tup [.lst 1 (l.map iv),.bool true]:=by
 unfold nrV;rw [h.1];dsimp only;rw [if_pos];exact ⟨rfl,by rw [h.2]⟩
theorem nr_no {row word:List UInt8} {n:Nat} (h:∀ l,¬ HasR row word n l):nrV row word (n:Int)=.tup [.lst 1 [],.bool false]:=by
 unfold nrV
 cases hp:rowP 3 row with
 | none=>rfl
 | some wl =>
  obtain ⟨w,l⟩:=wl
  simp only
  rw [if_neg]
  rintro ⟨rfl,q⟩
  exact h l ⟨hp,by omega⟩
theorem nr_form (row word:List UInt8) (m:Int):∃ la b,nrV row word m=.tup [.lst 1 la,.bool b]:=by
 unfold nrV
 cases rowP 3 row with
 | none=>exact ⟨_,_,rfl⟩
 | some wl=>simp only;split <;> exact ⟨_,_,rfl⟩
theorem step_over {i:Nat} {S:Sp} {m:Int} {row:List UInt8}:stepB i ⟨S,m,true⟩ row=none:=by
 unfold stepB;split
 ·rfl
 ·rw [if_pos rfl]
theorem step_late {i:Nat} {S:Sp} {m:Int} {row:List UInt8} {l:List Int} (h:HasR row wShop 1 l) (hi:i ≠ 0):stepB i ⟨S,m,false⟩ row=none:=by
 unfold stepB;rw [h.1];simp [hi]
theorem step_first {S:Sp} {m:Int} {row:List UInt8} (h:∀ l,¬ HasR row wShop 1 l):stepB 0 ⟨S,m,false⟩ row=none:=by
 unfold stepB
 cases hp:rowP 3 row with
 | none=>rfl
 | some wl =>
  obtain ⟨w,l⟩:=wl
  simp only
  by_cases hw:w=wShop
  ·subst hw
   have hl:¬ l.length=1:=fun q=>h l ⟨hp,q⟩
   simp [hl]
  ·simp [hw]
theorem step_shop {S:Sp} {m:Int} {row:List UInt8} {l:List Int} (h:HasR row wShop 1 l):stepB 0 ⟨S,m,false⟩ row=some ⟨S,nth l 0,false⟩:=by
 unfold stepB;rw [h.1];simp [h.2]
theorem no_shop {i:Nat} {S:Sp} {m:Int} {row w:List UInt8} {l:List Int} (hp:rowP 3 row=some (w,l)) (hi:i ≠ 0) (hs:w ≠ wShop):stepB i ⟨S,m,false⟩ row =
  if w=wWorker then (if l.length=3∧allIn 0 1 l=true∧S.js.length=0 then some ⟨⟨S.ws ++ [⟨decide (nth l 0=1),decide (nth l 1=1),decide (nth l 2=1)⟩],S.js⟩,m,false⟩ else none)
  else if w=wJob then (if l.length=3 then some ⟨⟨S.ws,S.js ++ [⟨nth l 0,nth l 1,nth l 2⟩]⟩,m,false⟩ else none)
  else if w=wEnd then (if l.length=0 then some ⟨S,m,true⟩ else none) else none:=by
 unfold stepB;rw [hp]
 simp only
 rw [if_neg (by simp),if_neg (by simp [hs,hi]),if_neg hs]
theorem step_worker {i:Nat} {S:Sp} {m:Int} {row:List UInt8} {l:List Int} (h:HasR row wWorker 3 l) (hi:i ≠ 0):stepB i ⟨S,m,false⟩ row =
  if S.js.length=0∧nth l 0 < 2∧nth l 1 < 2∧nth l 2 < 2 then some ⟨⟨S.ws ++ [⟨decide (nth l 0=1),decide (nth l 1=1),decide (nth l 2=1)⟩],S.js⟩,m,false⟩ else none:=by
 have hal:=all3 h.2 (rowP_nn h.1)
 rw [no_shop h.1 hi (by decide),if_pos rfl]
 by_cases q:S.js.length=0∧nth l 0 < 2∧nth l 1 < 2∧nth l 2 < 2
 ·rw [if_pos q,if_pos ⟨h.2,hal.2 q.2,q.1⟩]
 ·rw [if_neg q,if_neg (fun p=>q ⟨p.2.2,hal.1 p.2.1⟩)]
theorem step_job {i:Nat} {S:Sp} {m:Int} {row:List UInt8} {l:List Int} (h:HasR row wJob 3 l) (hi:i ≠ 0):stepB i ⟨S,m,false⟩ row=some ⟨⟨S.ws,S.js ++ [⟨nth l 0,nth l 1,nth l 2⟩]⟩,m,false⟩:=by
 rw [no_shop h.1 hi (by decide),if_neg (by decide),if_pos rfl,if_pos h.2]
theorem step_rest {i:Nat} {S:Sp} {m:Int} {row:List UInt8} (hi:i ≠ 0) (hA:∀ l,¬ HasR row wShop 1 l) (hB:∀ l,¬ HasR row wWorker 3 l) (hC:∀ l,¬ HasR row wJob 3 l) :
  stepB i ⟨S,m,false⟩ row=if row=wEnd then some ⟨S,m,true⟩ else none:=by
 cases hp:rowP 3 row with
 | none =>
  rw [if_neg (rowP_none hp)]
  unfold stepB;rw [hp]
 | some wl =>
  obtain ⟨w,l⟩:=wl
  have hend:=rowP_end hp
  by_cases hs:w=wShop
  ·subst hs
   rw [if_neg (fun q=>absurd (hend.1 q).1 (by decide))]
   unfold stepB;rw [hp];simp [hi]
  rw [no_shop hp hi hs]
  by_cases hw:w=wWorker
  ·subst hw
   rw [if_neg (fun q=>absurd (hend.1 q).1 (by decide)),if_pos rfl,if_neg (fun q=>hB l ⟨hp,q.1⟩)]
  by_cases hj:w=wJob
  ·subst hj
   rw [if_neg (fun q=>absurd (hend.1 q).1 (by decide)),if_neg (by decide),if_pos rfl,if_neg (fun q=>hC l ⟨hp,q⟩)]
  rw [if_neg hw,if_neg hj]
  by_cases he:w=wEnd∧l.length=0
  ·rw [if_pos (hend.2 he),if_pos he.1,if_pos he.2]
  ·rw [if_neg (fun q=>he (hend.1 q))]
   by_cases h2:w=wEnd
   ·rw [if_pos h2,if_neg (fun q=>he ⟨h2,q⟩)]
   ·rw [if_neg h2]
end Go.Proofs.YtaijkalhkgjakaaGreatDoor
