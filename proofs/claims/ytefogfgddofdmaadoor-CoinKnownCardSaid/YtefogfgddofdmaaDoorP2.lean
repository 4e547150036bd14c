/- Contracts of functions that the claim reaches: what each call gives, told in our own logic. Conditions: those of each theorem. -/
import Derived.Test.YtefogfgddofdmaaDoorG7
set_option linter.all false
set_option linter.unusedSimpArgs false
set_option linter.unusedVariables false
namespace Go.Proofs.YtefogfgddofdmaaDoor
open Go.Av
set_option maxHeartbeats 8000000
set_option maxRecDepth 20000
def Lg.pr (l:Lg):Pr:=⟨l.fs.length,l.bs.length,fun k i=>payB (fd l.fs k) (bl l.bs i),fun i=>(bl l.bs i).amt⟩
def bitS (s:Int):Nat→Bool:=fun j=>hasB s (j:Nat)
def rF (rs:List Int):Nat→Int:=fun k=>rs.getD k 0
theorem slack_pr (l:Lg) (rs:List Int) (s:Int):slackB l rs s=l.pr.slack (rF rs) (bitS s):=rfl
theorem payer_pr (l:Lg) (k:Nat) (s:Int):payerB l k s=l.pr.pay k (bitS s):=rfl
theorem Pr.pay_congr {p:Pr} {k:Nat} {S U:Nat→Bool} (h:∀ j,j < p.nB→S j=U j):p.pay k S=p.pay k U:=by
 rw [Bool.eq_iff_iff,Pr.pay_iff,Pr.pay_iff]
 exact ⟨fun ⟨i,h1,h2,h3⟩=>⟨i,h1,by rw [← h i h1];exact h2,h3⟩,fun ⟨i,h1,h2,h3⟩=>⟨i,h1,by rw [h i h1];exact h2,h3⟩⟩
theorem Pr.slack_congr {p:Pr} {r:Nat→Int} {S U:Nat→Bool} (h:∀ j,j < p.nB→S j=U j):p.slack r S=p.slack r U:=by
 unfold Pr.slack Pr.has Pr.due
 rw [sumF_congr (F:=fun k=>if p.pay k S then r k else 0) (G:=fun k=>if p.pay k U then r k else 0) (fun k _=>by rw [Pr.pay_congr h]),
  sumF_congr (F:=fun i=>if S i then p.a i else 0) (G:=fun i=>if U i then p.a i else 0) (fun i hi=>by rw [h i hi])]
def enc (U:Nat→Bool):Nat→Nat
 | 0=>0
 | n+1=>2 ^ n * (if U n then 1 else 0)+enc U n
theorem enc_lt (U:Nat→Bool):∀ n,enc U n < 2 ^ n
 | 0=>by show 0 < 1;decide
 | n+1=>by
  have:=enc_lt U n
  have e:2 ^ (n+1)=2 * 2 ^ n:=by rw [Nat.pow_succ,Nat.mul_comm]
  rw [e]
  unfold enc
  split <;> omega
theorem enc_bit (U:Nat→Bool):∀ n j,j < n→(enc U n).testBit j=U j
 | 0,j,h=>by omega
 | n+1,j,h=>by
  unfold enc
  by_cases e:j=n
  ·subst e
   have h0:=Nat.testBit_lt_two_pow (enc_lt U j)
   cases hu:U j
   ·simp [h0]
   ·simp [Nat.testBit_two_pow_add_eq,h0]
  ·have ih:=enc_bit U n j (by omega)
   cases hu:U n
   ·simp [ih]
   ·simp only[if_true,Nat.mul_one]
    rw [Nat.testBit_two_pow_add_gt (by omega),ih]
theorem has_nat:∀ s,s < 256→∀ j,j < 8→hasB ((s:Nat):Int) ((j:Nat):Int)=s.testBit j:=by decide +kernel
def mskB (i:Nat) (s:Int):Bool:=decide (bitop .and .i64 s (((2 ^ (i+1):Nat):Int) - 1) ≠ 0)
theorem msk_nat:∀ s,s < 256→∀ i,i < 8→mskB i ((s:Nat):Int)=(List.range (i+1)).any fun j=>s.testBit j:=by decide +kernel
theorem shl_nat:∀ n,n < 9→shl .i64 1 ((n:Nat):Int)=((2 ^ n:Nat):Int):=by decide +kernel
theorem pow_bd:∀ n,n < 9→1≤2 ^ n∧2 ^ n≤256:=by decide
theorem walk_all:∀ B,B < 9→∀ s,s < 2 ^ B→s=0 ∨ (wkN (fun m=>walkL B m 0 0) 1 B).contains ((s:Nat):Int)=true:=by decide +kernel
theorem enc_set (U:Nat→Bool) {B:Nat} (hB:B≤8):∀ j,j < B→bitS ((enc U B:Nat):Int) j=U j:=by
 intro j hj
 unfold bitS
 have:=enc_lt U B
 have h2:=pow_bd B (by omega)
 rw [has_nat _ (by omega) j (by omega),enc_bit U B j hj]
theorem slack_nn {l:Lg} (hl:LgOk l) (hp:prf l=none) (U:Nat→Bool):0≤l.pr.slack (rF (amts l.fs)) U:=by
 have hb:=hl.bn
 have e:l.pr.slack (rF (amts l.fs)) U=slackB l (amts l.fs) ((enc U l.bs.length:Nat):Int):=by
  rw [slack_pr]
  exact Pr.slack_congr fun j hj=>(enc_set U hb j hj).symm
 rw [e]
 rcases walk_all l.bs.length (by omega) _ (enc_lt U l.bs.length) with h|h
 ·rw [h,slack_pr]
  have hz:∀ j,j < l.pr.nB→bitS ((0:Nat):Int) j=false:=fun j hj=>by
   have hj':j < l.bs.length:=hj
   unfold bitS;rw [has_nat 0 (by omega) j (by omega)];simp
  rw [Pr.slack_congr (U:=fun _=>false) hz]
  unfold Pr.slack Pr.has Pr.due
  rw [sumF_zero,sumF_zero]
  ·decide
  ·intro i _;simp
  ·intro k _
   have:l.pr.pay k (fun _=>false)=false:=by simp [Pr.pay]
   rw [this];simp
 ·have hm:((enc U l.bs.length:Nat):Int) ∈ wkN (setsL l) 1 l.bs.length:=by
   show ((enc U l.bs.length:Nat):Int) ∈ wkN (fun m=>walkL l.bs.length m 0 0) 1 l.bs.length
   simpa using h
  have:=List.find?_eq_none.1 hp _ hm
  simpa [shortB] using this
def skipB (l:Lg) (i k:Nat) (s:Int):Bool:=mskB i s || !payerB l k s
def minS (l:Lg) (rs:List Int) (i k:Nat) (n0:Int):Nat→Int
 | 0=>n0
 | s+1=>if skipB l i k ((s:Nat):Int) then minS l rs i k n0 s else min (minS l rs i k n0 s) (slackB l rs ((s:Nat):Int))
theorem minS_le (l:Lg) (rs:List Int) (i k:Nat) (n0:Int):∀ N,minS l rs i k n0 N≤n0
 | 0=>Int.le_refl _
 | N+1=>by
  have:=minS_le l rs i k n0 N
  unfold minS
  split <;> omega
theorem minS_sl (l:Lg) (rs:List Int) (i k:Nat) (n0:Int):∀ N s,s < N→skipB l i k ((s:Nat):Int)=false→minS l rs i k n0 N≤slackB l rs ((s:Nat):Int)
 | 0,s,h,_=>by omega
 | N+1,s,h,hs=>by
  unfold minS
  by_cases e:s=N
  ·subst e;rw [hs];simp;omega
  ·have:=minS_sl l rs i k n0 N s (by omega) hs
   split <;> omega
theorem minS_or (l:Lg) (rs:List Int) (i k:Nat) (n0:Int):∀ N,minS l rs i k n0 N=n0 ∨ ∃ s,s < N∧skipB l i k ((s:Nat):Int)=false∧minS l rs i k n0 N=slackB l rs ((s:Nat):Int)
 | 0=>.inl rfl
 | N+1=>by
  have ih:=minS_or l rs i k n0 N
  unfold minS
  split
  ·rcases ih with h|⟨s,h1,h2,h3⟩
   ·exact .inl h
   ·exact .inr ⟨s,by omega,h2,h3⟩
  ·rename_i hs
   by_cases c:minS l rs i k n0 N≤slackB l rs ((N:Nat):Int)
   ·rw [Int.min_eq_left c]
    rcases ih with h|⟨s,h1,h2,h3⟩
    ·exact .inl h
    ·exact .inr ⟨s,by omega,h2,h3⟩
   ·rw [Int.min_eq_right (by omega)]
    exact .inr ⟨N,by omega,by simpa using hs,rfl⟩
structure TS where
 rs:List Int
 need:Int
 row:List Int
def TS.n (l:Lg) (i k:Nat) (t:TS):Int:=minS l t.rs i k (min t.need (t.rs.getD k 0)) (2 ^ l.bs.length)
def TS.step (l:Lg) (i k:Nat) (t:TS):TS :=
 if payB (fd l.fs k) (bl l.bs i) then ⟨t.rs.set k (t.rs.getD k 0 - t.n l i k),t.need - t.n l i k,t.row.set k (t.n l i k)⟩ else t
def z8:List Int:=[0,0,0,0,0,0,0,0]
def tsN (l:Lg) (i:Nat) (rs:List Int):Nat→TS
 | 0=>⟨rs,(bl l.bs i).amt,z8⟩
 | k+1=>(tsN l i rs k).step l i k
def rsN (l:Lg):Nat→List Int
 | 0=>amts l.fs
 | i+1=>(tsN l i (rsN l i) l.fs.length).rs
def rowN (l:Lg) (i:Nat):List Int:=(tsN l i (rsN l i) l.fs.length).row.take l.fs.length
def traceL (l:Lg):List (List Int):=(List.range l.bs.length).map (rowN l)
structure TsOk (l:Lg) (i k:Nat) (t:TS):Prop where
 rs:RsOk t.rs
 len:t.row.length=8
 inv:l.pr.Inv i k t.need (rF t.rs)
 top:t.need≤1000000000
theorem rF_set {rs:List Int} {k:Nat} {v:Int} (hk:k < rs.length):rF (rs.set k v)=put (rF rs) k v:=by
 funext f
 unfold rF put
 simp only[List.getD_eq_getElem?_getD]
 by_cases e:f=k
 ·subst e;simp [hk]
 ·rw [if_neg e,List.getElem?_set_ne (fun h=>e h.symm)]
theorem msk_false {i s:Nat} (hs:s < 256) (hi:i < 8):mskB i ((s:Nat):Int)=false ↔ ∀ j,bitS ((s:Nat):Int) j=true→j < 8→i < j:=by
 rw [msk_nat s hs i hi,List.any_eq_false]
 constructor
 ·intro h j hj h8
  by_cases c:j≤i
  ·have:=h j (List.mem_range.2 (by omega))
   unfold bitS at hj
   rw [has_nat s hs j h8] at hj
   exact absurd hj this
  ·omega
 ·intro h j hj
  have hj':=List.mem_range.1 hj
  intro hb
  have:=h j (by unfold bitS;rw [has_nat s hs j (by omega)];exact hb) (by omega)
  omega
theorem TsOk.n_nn {l:Lg} (hl:LgOk l) {i k:Nat} {t:TS} (hi:i < l.bs.length) (hk:k < l.fs.length) (h:TsOk l i k t) (s:Nat) (hs:s≤2 ^ l.bs.length) :
  0≤minS l t.rs i k (min t.need (t.rs.getD k 0)) s∧minS l t.rs i k (min t.need (t.rs.getD k 0)) s≤1000000000:=by
 have hfn:=hl.fn
 have hbn:=hl.bn
 have h1:=h.rs.2 k (by omega)
 have h2:=h.inv.nd
 have h3:=h.top
 have hp:=pow_bd l.bs.length (by omega)
 refine ⟨?_,Int.le_trans (minS_le ..) (by omega)⟩
 rcases minS_or l t.rs i k (min t.need (t.rs.getD k 0)) s with e|⟨u,u1,u2,u3⟩
 ·omega
 ·rw [u3]
  have u2':mskB i ((u:Nat):Int)=false:=by
   unfold skipB at u2
   cases hm:mskB i ((u:Nat):Int)
   ·rfl
   ·rw [hm] at u2;simp at u2
  have hu:=(msk_false (by omega) (by omega)).1 u2'
  let U:Nat→Bool:=fun j=>bitS ((u:Nat):Int) j && decide (j < 8)
  have hU:∀ j,U j=true→i < j:=fun j hj=>by
   have:=and_true.1 hj
   exact hu j this.1 (of_decide_eq_true this.2)
  have hUi:U i=false:=by
   cases hx:U i
   ·rfl
   ·have:=hU i hx;omega
  have:=h.inv.ok U (fun j hj=>by have:=hU j hj;omega)
  rw [Pr.slack_at hUi] at this
  rw [slack_pr,Pr.slack_congr (U:=U) (fun j hj=>by
   have hj':j < l.bs.length:=hj
   have:decide (j < 8)=true:=decide_eq_true (by omega)
   simp [U,this])]
  exact this
theorem TsOk.next {l:Lg} (hl:LgOk l) {i k:Nat} {t:TS} (hi:i < l.bs.length) (hk:k < l.fs.length) (h:TsOk l i k t):TsOk l i (k+1) (t.step l i k):=by
 have hfn:=hl.fn
 have hbn:=hl.bn
 unfold TS.step
 cases hc:payB (fd l.fs k) (bl l.bs i)
 ·simp only[Bool.false_eq_true,if_false]
  exact ⟨h.rs,h.len,h.inv.skip hc,h.top⟩
 ·simp only[if_true]
  have hp:=pow_bd l.bs.length (by omega)
  have h0:=h.n_nn hl hi hk (2 ^ l.bs.length) (Nat.le_refl _)
  have e0:t.n l i k=minS l t.rs i k (min t.need (t.rs.getD k 0)) (2 ^ l.bs.length):=rfl
  have hle:=minS_le l t.rs i k (min t.need (t.rs.getD k 0)) (2 ^ l.bs.length)
  have hor:=minS_or l t.rs i k (min t.need (t.rs.getD k 0)) (2 ^ l.bs.length)
  have hsl:=minS_sl l t.rs i k (min t.need (t.rs.getD k 0)) (2 ^ l.bs.length)
  rw [← e0] at h0 hle hor hsl
  generalize t.n l i k=n at *
  have hr:=h.rs.2 k (by omega)
  have hlen:=h.rs.1
  refine ⟨⟨by rw [List.length_set];exact hlen,fun j hj=>?_⟩,by rw [List.length_set];exact h.len,?_,by have:=h.top;dsimp only;omega⟩
  ·have:=congrFun (rF_set (rs:=t.rs) (k:=k) (v:=t.rs.getD k 0 - n) (by omega)) j
   unfold rF put at this
   dsimp only
   rw [this]
   have:=h.rs.2 j hj
   split
   ·omega
   ·exact this
  ·dsimp only
   rw [rF_set (by omega)]
   refine h.inv.give hi hk hc h0.1 (by omega) (by show n≤t.rs.getD k 0;omega) (fun U hU hpay=>?_) ?_
   ·have hlt:=enc_lt U l.bs.length
    have hes:=enc_set U hbn
    have e1:l.pr.slack (rF t.rs) U=slackB l t.rs ((enc U l.bs.length:Nat):Int):=by
     rw [slack_pr];exact Pr.slack_congr fun j hj=>(hes j hj).symm
    rw [e1]
    refine hsl _ hlt ?_
    unfold skipB
    have m:mskB i ((enc U l.bs.length:Nat):Int)=false:=(msk_false (by omega) (by omega)).2 fun j hj h8=>by
     by_cases c:j < l.bs.length
     ·rw [hes j c] at hj;exact hU j hj
     ·omega
    have p:payerB l k ((enc U l.bs.length:Nat):Int)=true:=by
     rw [payer_pr,Pr.pay_congr (U:=U) (fun j hj=>hes j hj)];exact hpay
    rw [m,p];rfl
   ·rcases hor with e|⟨u,u1,u2,u3⟩
    ·by_cases c:t.need≤t.rs.getD k 0
     ·left;omega
     ·right;left;show n=t.rs.getD k 0;omega
    ·right;right
     have u2a:mskB i ((u:Nat):Int)=false∧payerB l k ((u:Nat):Int)=true:=by
      unfold skipB at u2
      cases hm:mskB i ((u:Nat):Int) <;> cases hq:payerB l k ((u:Nat):Int) <;> rw [hm,hq] at u2 <;> simp at u2 ⊢
     have hu:=(msk_false (by omega) (by omega)).1 u2a.1
     have hUe:∀ j,j < l.pr.nB→bitS ((u:Nat):Int) j=(bitS ((u:Nat):Int) j && decide (j < 8)):=fun j hj=>by
      have hj':j < l.bs.length:=hj
      have:decide (j < 8)=true:=decide_eq_true (by omega)
      simp [this]
     refine ⟨fun j=>bitS ((u:Nat):Int) j && decide (j < 8),fun j hj=>?_,?_,?_⟩
     ·have:=and_true.1 hj
      exact hu j this.1 (of_decide_eq_true this.2)
     ·rw [← Pr.pay_congr hUe];exact u2a.2
     ·rw [← Pr.slack_congr hUe,← slack_pr];exact u3
theorem tsN_ok {l:Lg} (hl:LgOk l) {i:Nat} (hi:i < l.bs.length) {rs:List Int} (hr:RsOk rs) (ho:l.pr.ok i (rF rs)):∀ k,k≤l.fs.length→TsOk l i k (tsN l i rs k)
 | 0,_=>by
  have:=(hl.b _ (bl_mem hi)).amt
  have hfn:=hl.fn
  refine ⟨hr,rfl,Pr.Inv.start (p:=l.pr) (i:=i) (fun f hf=>?_) (by show 0≤(bl l.bs i).amt;omega) ho,by show (bl l.bs i).amt≤1000000000;omega⟩
  have hf':f < l.fs.length:=hf
  exact (hr.2 f (by omega)).1
 | k+1,h=>(tsN_ok hl hi hr ho k (by omega)).next hl hi (by omega)
theorem rsN_ok {l:Lg} (hl:LgOk l) (hp:prf l=none):∀ i,i≤l.bs.length→RsOk (rsN l i)∧l.pr.ok i (rF (rsN l i))
 | 0,_=>⟨amtsOk hl,fun S _=>slack_nn hl hp S⟩
 | i+1,h=>by
  obtain ⟨h1,h2⟩:=rsN_ok hl hp i (by omega)
  have:=tsN_ok hl (by omega) h1 h2 l.fs.length (Nat.le_refl _)
  exact ⟨this.rs,this.inv.next⟩
end Go.Proofs.YtefogfgddofdmaaDoor
