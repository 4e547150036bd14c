/- Contracts of functions that the claim reaches: what each call gives, told in our own logic. Conditions: those of each theorem. -/
import Derived.KernelRfl
import Derived.Test.YtefogfgddofdmaaDoorG2
set_option linter.all false
set_option linter.unusedSimpArgs false
set_option linter.unusedVariables false
namespace Go.Proofs.YtefogfgddofdmaaDoor
theorem or_true {a b:Bool}:(a || b)=true ↔ a=true ∨ b=true:=by cases a <;> cases b <;> simp
theorem and_true {a b:Bool}:(a && b)=true ↔ a=true∧b=true:=by cases a <;> cases b <;> simp
def sumF (F:Nat→Int):Nat→Int
 | 0=>0
 | i+1=>sumF F i+F i
theorem sumF_congr {F G:Nat→Int}:∀ {n:Nat},(∀ i,i < n→F i=G i)→sumF F n=sumF G n
 | 0,_=>rfl
 | n+1,h=>by
  show sumF F n+F n=sumF G n+G n
  rw [sumF_congr (fun i hi=>h i (by omega)),h n (by omega)]
theorem sumF_mono {F G:Nat→Int}:∀ {n:Nat},(∀ i,i < n→F i≤G i)→sumF F n≤sumF G n
 | 0,_=>Int.le_refl _
 | n+1,h=>by
  have h1:=sumF_mono (n:=n) (fun i hi=>h i (by omega))
  have h2:=h n (by omega)
  show sumF F n+F n≤sumF G n+G n
  omega
theorem sumF_add (F G:Nat→Int):∀ n,sumF (fun i=>F i+G i) n=sumF F n+sumF G n
 | 0=>rfl
 | n+1=>by
  show sumF (fun i=>F i+G i) n+(F n+G n)=sumF F n+F n+(sumF G n+G n)
  rw [sumF_add F G n];omega
theorem sumF_zero:∀ {F:Nat→Int} {n:Nat},(∀ i,i < n→F i=0)→sumF F n=0
 | _,0,_=>rfl
 | F,n+1,h=>by
  show sumF F n+F n=0
  rw [sumF_zero (fun i hi=>h i (by omega)),h n (by omega)];rfl
theorem sumF_nn {F:Nat→Int} {n:Nat} (h:∀ i,i < n→0≤F i):0≤sumF F n:=by
 have:=sumF_mono (F:=fun _=>0) (G:=F) (n:=n) h
 rw [sumF_zero (F:=fun _=>0) (fun _ _=>rfl)] at this
 exact this
theorem sumF_one {F G:Nat→Int} {k:Nat}:∀ {n:Nat},k < n→(∀ i,i < n→i ≠ k→F i=G i)→sumF F n=sumF G n+(F k - G k)
 | 0,h,_=>by omega
 | n+1,h,he=>by
  show sumF F n+F n=sumF G n+G n+(F k - G k)
  by_cases e:n=k
  ·subst e
   rw [sumF_congr (n:=n) (fun i hi=>he i (by omega) (by omega))];omega
  ·rw [sumF_one (by omega) (fun i hi=>he i (by omega)),he n (by omega) e];omega
structure Pr where
 nF:Nat
 nB:Nat
 can:Nat→Nat→Bool
 a:Nat→Int
def Pr.pay (p:Pr) (k:Nat) (S:Nat→Bool):Bool:=(List.range p.nB).any fun i=>S i && p.can k i
theorem Pr.pay_iff {p:Pr} {k:Nat} {S:Nat→Bool}:p.pay k S=true ↔ ∃ i,i < p.nB∧S i=true∧p.can k i=true:=by
 simp [Pr.pay]
def Pr.has (p:Pr) (r:Nat→Int) (S:Nat→Bool):Int:=sumF (fun k=>if p.pay k S then r k else 0) p.nF
def Pr.due (p:Pr) (S:Nat→Bool):Int:=sumF (fun i=>if S i then p.a i else 0) p.nB
def Pr.slack (p:Pr) (r:Nat→Int) (S:Nat→Bool):Int:=p.has r S - p.due S
def Pr.ok (p:Pr) (i:Nat) (r:Nat→Int):Prop:=∀ S:Nat→Bool,(∀ j,S j=true→i≤j)→0≤p.slack r S
theorem Pr.submod (p:Pr) {r:Nat→Int} (hr:∀ k,k < p.nF→0≤r k) {S U:Nat→Bool} {k:Nat} (hk:k < p.nF) (h1:p.pay k S=true) (h2:p.pay k U=true) (h3:p.pay k (fun i=>S i && U i)=false) :
  p.slack r (fun i=>S i || U i)+p.slack r (fun i=>S i && U i)+r k≤p.slack r S+p.slack r U:=by
 have hd:p.due (fun i=>S i || U i)+p.due (fun i=>S i && U i)=p.due S+p.due U:=by
  unfold Pr.due
  rw [← sumF_add,← sumF_add]
  refine sumF_congr fun i _=>?_
  cases h1:S i <;> cases h2:U i <;> simp [h1,h2]
 have hh:p.has r (fun i=>S i || U i)+p.has r (fun i=>S i && U i)+r k≤p.has r S+p.has r U:=by
  unfold Pr.has
  rw [← sumF_add,← sumF_add]
  have e:=sumF_one (F:=fun j=>((if p.pay j S then r j else 0)+if p.pay j U then r j else 0)) (G:=fun j=>if j=k then r k else ((if p.pay j S then r j else 0)+if p.pay j U then r j else 0)) hk (fun i _ hi=>by simp [hi])
  simp only[h1,h2,if_true] at e
  rw [e]
  have m:=sumF_mono (n:=p.nF) (F:=fun j=>(if p.pay j (fun i=>S i || U i) then r j else 0)+if p.pay j (fun i=>S i && U i) then r j else 0) (G:=fun j=>if j=k then r k else ((if p.pay j S then r j else 0)+if p.pay j U then r j else 0)) (fun j hj=>by
   have hrj:=hr j hj
   by_cases ej:j=k
   ·subst ej
    rw [h3]
    simp only[if_true,Bool.false_eq_true,if_false]
    split <;> omega
   ·rw [if_neg ej]
    have a1:p.pay j (fun i=>S i || U i)=true→p.pay j S=true ∨ p.pay j U=true:=by
     intro h
     obtain ⟨i,i1,i2,i3⟩:=Pr.pay_iff.1 h
     rcases or_true.1 i2 with h|h
     ·exact .inl (Pr.pay_iff.2 ⟨i,i1,h,i3⟩)
     ·exact .inr (Pr.pay_iff.2 ⟨i,i1,h,i3⟩)
    have a2:p.pay j (fun i=>S i && U i)=true→p.pay j S=true∧p.pay j U=true:=by
     intro h
     obtain ⟨i,i1,i2,i3⟩:=Pr.pay_iff.1 h
     have:=Go.Proofs.YtefogfgddofdmaaDoor.and_true.1 i2
     exact ⟨Pr.pay_iff.2 ⟨i,i1,this.1,i3⟩,Pr.pay_iff.2 ⟨i,i1,this.2,i3⟩⟩
    clear hr e h1 h2 h3 hd
    cases b1:p.pay j (fun i=>S i || U i) <;> cases b2:p.pay j (fun i=>S i && U i) <;> cases b3:p.pay j S <;> cases b4:p.pay j U <;> simp_all <;> omega)
  omega
 unfold Pr.slack
 omega
def Pr.at_ (p:Pr) (i k:Nat) (need:Int):Pr:=⟨p.nF,p.nB,fun f j=>if j=i then decide (k≤f) && p.can f j else p.can f j,fun j=>if j=i then need else p.a j⟩
structure Pr.Inv (p:Pr) (i k:Nat) (need:Int) (r:Nat→Int):Prop where
 nn:∀ f,f < p.nF→0≤r f
 nd:0≤need
 ok:(p.at_ i k need).ok i r
theorem Pr.pay_at {p:Pr} {i k f:Nat} {need:Int} {S:Nat→Bool} (h:S i=false):(p.at_ i k need).pay f S=p.pay f S:=by
 rw [Bool.eq_iff_iff,Pr.pay_iff,Pr.pay_iff]
 constructor
 ·rintro ⟨j,h1,h2,h3⟩
  refine ⟨j,h1,h2,?_⟩
  have:j ≠ i:=fun e=>by rw [e,h] at h2;cases h2
  simpa [Pr.at_,this] using h3
 ·rintro ⟨j,h1,h2,h3⟩
  refine ⟨j,h1,h2,?_⟩
  have:j ≠ i:=fun e=>by rw [e,h] at h2;cases h2
  simpa [Pr.at_,this] using h3
theorem Pr.due_at {p:Pr} {i k:Nat} {need:Int} {S:Nat→Bool} (h:S i=false):(p.at_ i k need).due S=p.due S:=by
 unfold Pr.due
 refine sumF_congr fun j _=>?_
 by_cases e:j=i
 ·rw [e,h];simp
 ·simp [Pr.at_,e]
theorem Pr.slack_at {p:Pr} {i k:Nat} {need:Int} {r:Nat→Int} {S:Nat→Bool} (h:S i=false):(p.at_ i k need).slack r S=p.slack r S:=by
 unfold Pr.slack Pr.has
 rw [Pr.due_at h]
 have:(p.at_ i k need).nF=p.nF:=rfl
 rw [this]
 simp only[Pr.pay_at h]
theorem Pr.due_in {p:Pr} {i k:Nat} (hi:i < p.nB) {need need':Int} {k':Nat} {S:Nat→Bool} (h:S i=true):(p.at_ i k need).due S=(p.at_ i k' need').due S+(need - need'):=by
 unfold Pr.due
 have:=sumF_one (F:=fun j=>if S j then (p.at_ i k need).a j else 0) (G:=fun j=>if S j then (p.at_ i k' need').a j else 0) hi (fun j _ hj=>by simp [Pr.at_,hj])
 simp only[h,if_true] at this
 have e1:(p.at_ i k need).a i=need:=by simp [Pr.at_]
 have e2:(p.at_ i k' need').a i=need':=by simp [Pr.at_]
 rw [e1,e2] at this
 exact this
def put (r:Nat→Int) (k:Nat) (v:Int):Nat→Int:=fun f=>if f=k then v else r f
theorem Pr.Inv.skip {p:Pr} {i k:Nat} {need:Int} {r:Nat→Int} (h:p.Inv i k need r) (hc:p.can k i=false):p.Inv i (k+1) need r:=by
 have e:p.at_ i (k+1) need=p.at_ i k need:=by
  unfold Pr.at_
  congr 1
  funext f j
  by_cases ej:j=i
  ·subst ej
   by_cases ef:f=k
   ·subst ef;simp [hc]
   ·have:(k+1≤f)=(k≤f):=propext ⟨fun h=>by omega,fun h=>by omega⟩
    simp [this]
  ·simp [ej]
 exact ⟨h.nn,h.nd,by rw [e];exact h.ok⟩
theorem Pr.Inv.give {p:Pr} {i k:Nat} {need n:Int} {r:Nat→Int} (h:p.Inv i k need r) (hi:i < p.nB) (hk:k < p.nF) (hc:p.can k i=true) (n0:0≤n) (n1:n≤need) (n2:n≤r k)
  (n3:∀ U:Nat→Bool,(∀ j,U j=true→i < j)→p.pay k U=true→n≤p.slack r U)
  (n4:n=need ∨ n=r k ∨ ∃ U:Nat→Bool,(∀ j,U j=true→i < j)∧p.pay k U=true∧n=p.slack r U):p.Inv i (k+1) (need - n) (put r k (r k - n)):=by
 refine ⟨fun f hf=>?_,by omega,fun S hS=>?_⟩
 ·unfold put
  split
  ·omega
  ·exact h.nn f hf
 have hasp:∀ (q:Pr) (S:Nat→Bool),q.nF=p.nF→q.has (put r k (r k - n)) S=q.has r S - if q.pay k S then n else 0:=by
  intro q S hq
  unfold Pr.has
  have:=sumF_one (F:=fun f=>if q.pay f S then put r k (r k - n) f else 0) (G:=fun f=>if q.pay f S then r f else 0) (n:=q.nF) (k:=k) (by omega) (fun f _ hf=>by simp [put,hf])
  rw [this]
  simp only[put,if_true]
  split <;> omega
 cases hSi:S i
 ·rw [Pr.slack_at hSi]
  have h0:=h.ok S hS
  rw [Pr.slack_at hSi] at h0
  have e:=hasp p S rfl
  unfold Pr.slack at h0 ⊢
  rw [e]
  split
  ·rename_i hp
   have:=n3 S (fun j hj=>by
    have:=hS j hj
    by_cases ej:j=i
    ·rw [ej,hSi] at hj;cases hj
    ·omega) hp
   unfold Pr.slack at this
   omega
  ·omega
 ·let T:Nat→Bool:=fun j=>S j && decide (j ≠ i)
  have hTi:T i=false:=by simp [T]
  have hT:∀ j,T j=true→i < j:=fun j hj=>by
   simp [T] at hj
   have:=hS j hj.1
   omega
  have h0:=h.ok S hS
  have hdu:=Pr.due_in (p:=p) (i:=i) (k:=k+1) hi (need:=need - n) (need':=need) (k':=k) hSi
  have e:=hasp (p.at_ i (k+1) (need - n)) S rfl
  have payo:∀ f,f ≠ k→(p.at_ i (k+1) (need - n)).pay f S=(p.at_ i k need).pay f S:=by
   intro f hf
   rw [Bool.eq_iff_iff,Pr.pay_iff,Pr.pay_iff]
   have this:∀ j,(p.at_ i (k+1) (need - n)).can f j=(p.at_ i k need).can f j:=by
    intro j
    have:(k+1≤f)=(k≤f):=propext ⟨fun h=>by omega,fun h=>by omega⟩
    simp [Pr.at_,this]
   simp only[this]
   exact Iff.rfl
  have payk:(p.at_ i k need).pay k S=true:=Pr.pay_iff.2 ⟨i,hi,hSi,by simp [Pr.at_,hc]⟩
  have payk':(p.at_ i (k+1) (need - n)).pay k S=p.pay k T:=by
   rw [Bool.eq_iff_iff,Pr.pay_iff,Pr.pay_iff]
   constructor
   ·rintro ⟨j,g1,g2,g3⟩
    by_cases ej:j=i
    ·subst ej;simp [Pr.at_] at g3;omega
    ·exact ⟨j,g1,by simp [T,g2,ej],by simpa [Pr.at_,ej] using g3⟩
   ·rintro ⟨j,g1,g2,g3⟩
    simp [T] at g2
    exact ⟨j,g1,g2.1,by simpa [Pr.at_,g2.2] using g3⟩
  have hs:(p.at_ i (k+1) (need - n)).has r S=(p.at_ i k need).has r S - if p.pay k T then 0 else r k:=by
   unfold Pr.has
   have:=sumF_one (F:=fun f=>if (p.at_ i (k+1) (need - n)).pay f S then r f else 0) (G:=fun f=>if (p.at_ i k need).pay f S then r f else 0) (n:=p.nF) (k:=k) hk (fun f _ hf=>by simp [payo f hf])
   have en:(p.at_ i (k+1) (need - n)).nF=p.nF:=rfl
   have en':(p.at_ i k need).nF=p.nF:=rfl
   rw [en,en',this]
   simp only[payk,payk',if_true]
   split <;> omega
  unfold Pr.slack at h0 ⊢
  rw [e,payk',hs]
  cases hpt:p.pay k T
  ·simp only[Bool.false_eq_true,if_false]
   have base:0≤p.slack r T:=by
    have:=h.ok T (fun j hj=>by have:=hT j hj;omega)
    rwa [Pr.slack_at hTi] at this
   have dueT:(p.at_ i k need).due S=p.due T+need:=by
    have h1:=sumF_one (F:=fun j=>if S j then (p.at_ i k need).a j else 0) (G:=fun j=>if T j then p.a j else 0) hi (fun j _ hj=>by simp [Pr.at_,hj,T])
    simp only[hSi,hTi,if_true,Bool.false_eq_true,if_false] at h1
    have e1:(p.at_ i k need).a i=need:=by simp [Pr.at_]
    unfold Pr.due
    have en:(p.at_ i k need).nB=p.nB:=rfl
    rw [en,h1,e1];omega
   rcases n4 with rfl|rfl|⟨U,hU,hU1,hU2⟩
   ·have m:p.has r T≤(p.at_ i k n).has r S - r k:=by
     unfold Pr.has
     have:=sumF_one (F:=fun f=>if (p.at_ i k n).pay f S then r f else 0) (G:=fun f=>if f=k then 0 else if (p.at_ i k n).pay f S then r f else 0) (n:=p.nF) (k:=k) hk (fun f _ hf=>by simp [hf])
     have en:(p.at_ i k n).nF=p.nF:=rfl
     rw [en,this]
     simp only[payk,if_true]
     have mm:=sumF_mono (n:=p.nF) (F:=fun f=>if p.pay f T then r f else 0) (G:=fun f=>if f=k then 0 else if (p.at_ i k n).pay f S then r f else 0) (fun f hf=>by
      have hrf:=h.nn f hf
      by_cases ef:f=k
      ·subst ef;rw [hpt];simp
      ·rw [if_neg ef]
       cases hft:p.pay f T
       ·simp only[Bool.false_eq_true,if_false];split <;> omega
       ·have:(p.at_ i k n).pay f S=true:=by
         obtain ⟨j,g1,g2,g3⟩:=Pr.pay_iff.1 hft
         simp [T] at g2
         exact Pr.pay_iff.2 ⟨j,g1,g2.1,by simpa [Pr.at_,g2.2] using g3⟩
        simp [this])
     omega
    unfold Pr.slack at base
    omega
   ·omega
   ·have hUi:U i=false:=by
     cases hu:U i
     ·rfl
     ·have:=hU i hu;omega
    have sub:=Pr.submod (p.at_ i k need) (r:=r) h.nn (S:=S) (U:=U) hk payk (by rw [Pr.pay_at hUi];exact hU1) (by
     cases hx:(p.at_ i k need).pay k (fun j=>S j && U j)
     ·rfl
     ·obtain ⟨j,g1,g2,g3⟩:=Pr.pay_iff.1 hx
      have g2':=and_true.1 g2
      have ej:j ≠ i:=fun e=>by rw [e,hUi] at g2';cases g2'.2
      have:p.pay k T=true:=Pr.pay_iff.2 ⟨j,g1,by simp [T,g2'.1,ej],by simpa [Pr.at_,ej] using g3⟩
      rw [hpt] at this;cases this)
    have o1:=h.ok (fun j=>S j || U j) (fun j hj=>by
     rcases or_true.1 hj with hj|hj
     ·exact hS j hj
     ·have:=hU j hj;omega)
    have o2:=h.ok (fun j=>S j && U j) (fun j hj=>hS j (and_true.1 hj).1)
    have eU:=Pr.slack_at (p:=p) (i:=i) (k:=k) (need:=need) (r:=r) hUi
    unfold Pr.slack at sub o1 o2 eU hU2
    omega
  ·simp only[if_true]
   omega
theorem Pr.Inv.done {p:Pr} {i:Nat} {need:Int} {r:Nat→Int} (h:p.Inv i p.nF need r) (hi:i < p.nB):need=0:=by
 have h0:=h.ok (fun j=>decide (j=i)) (fun j hj=>by simp at hj;omega)
 have e1:(p.at_ i p.nF need).has r (fun j=>decide (j=i))=0:=by
  refine sumF_zero fun f hf=>?_
  have hf':f < p.nF:=hf
  have:(p.at_ i p.nF need).pay f (fun j=>decide (j=i))=false:=by
   cases hx:(p.at_ i p.nF need).pay f (fun j=>decide (j=i))
   ·rfl
   ·obtain ⟨j,g1,g2,g3⟩:=Pr.pay_iff.1 hx
    obtain rfl:j=i:=of_decide_eq_true g2
    simp [Pr.at_] at g3
    omega
  rw [this];simp
 have e2:(p.at_ i p.nF need).due (fun j=>decide (j=i))=need:=by
  unfold Pr.due
  have:=sumF_one (F:=fun j=>if decide (j=i)=true then (p.at_ i p.nF need).a j else 0) (G:=fun _=>0) (n:=p.nB) (k:=i) hi (fun j _ hj=>by simp [hj])
  have en:(p.at_ i p.nF need).nB=p.nB:=rfl
  rw [en,this,sumF_zero (fun _ _=>rfl)]
  simp [Pr.at_]
 unfold Pr.slack at h0
 rw [e1,e2] at h0
 have:=h.nd
 omega
theorem Pr.Inv.start {p:Pr} {i:Nat} {r:Nat→Int} (hr:∀ f,f < p.nF→0≤r f) (ha:0≤p.a i) (h:p.ok i r):p.Inv i 0 (p.a i) r:=by
 have e:p.at_ i 0 (p.a i)=p:=by
  unfold Pr.at_
  cases p
  congr 1
  ·funext f j;simp
  ·funext j;dsimp only;split
   ·rename_i e;rw [e]
   ·rfl
 exact ⟨hr,ha,by rw [e];exact h⟩
theorem Pr.Inv.next {p:Pr} {i k:Nat} {need:Int} {r:Nat→Int} (h:p.Inv i k need r):p.ok (i+1) r:=fun S hS=>by
 have hSi:S i=false:=by
  cases hs:S i
  ·rfl
  ·have:=hS i hs;omega
 have:=h.ok S (fun j hj=>by have:=hS j hj;omega)
 rwa [Pr.slack_at hSi] at this
end Go.Proofs.YtefogfgddofdmaaDoor

namespace Go.Proofs.YtefogfgddofdmaaDoor
open Go.Av
attribute [local irreducible] thenA blockA awp awpOps awpD awp1
attribute [local go_sem_proc] Nat.reduceAdd Nat.reduceMul Nat.reduceEqDiff Nat.reduceBEq Nat.reduceLeDiff
attribute [local go_sem_proc ↓] reduceIte
attribute [local go_sem] if_yes if_no
set_option maxHeartbeats 8000000
set_option maxRecDepth 20000
def iA (n:Int):AV:=.int .i64 n
@[go_sem] theorem iA_all (l:List Int):(l.map iA).all AV.cell=true:=by
 induction l with
 | nil=>rfl
 | cons x l ih=>simp only[List.map_cons,List.all_cons,ih,Bool.and_true];rfl
@[go_sem] theorem iA_get {l:List Int} {i:Nat} (h:i < l.length):(l.map iA)[i]?=some (.int .i64 (l.getD i 0)):=by
 simp [iA,List.getD_eq_getElem?_getD,h]
@[go_sem] theorem iA_take {l:List Int} {n:Nat} (h:l.length≤n):(l.map iA).take n=l.map iA:=List.take_of_length_le (by simpa using h)
theorem iA_put {l:List Int} {j:Nat} {v:Int} (h:j < l.length):(l.map iA).take j ++ [.int .i64 v] ++ (l.map iA).drop (j+1)=(l.set j v).map iA:=by
 rw [List.map_set,← List.map_take,← List.map_drop,List.set_eq_take_append_cons_drop,if_pos (by simpa using h)]
 simp [iA]
@[go_sem] theorem drop_0 {α:Type} (l:List α):l.drop 0=l:=rfl
def ravN (rs:List Int):AV:=.agg (rs.map iA)
@[go_sem] theorem ravN_eq (rs:List Int):ravN rs=.agg (rs.map iA):=rfl
def amN (l:List Fd) (i:Nat):List Int:=(List.range 8).map fun j=>if j < i then (fd l j).amt else 0
def amts (l:List Fd):List Int:=(List.range 8).map fun j=>(fd l j).amt
theorem amN_len (l:List Fd) (i:Nat):(amN l i).length=8:=by simp [amN]
theorem amts_len (l:List Fd):(amts l).length=8:=by simp [amts]
theorem amN_set {l:List Fd} {i:Nat} (h:i < 8):(amN l i).set i (fd l i).amt=amN l (i+1):=by
 refine List.ext_getElem (by simp [amN]) fun j h1 h2=>?_
 rw [List.getElem_set]
 have hj:j < 8:=by simpa [amN] using h2
 by_cases c:i=j
 ·subst c;simp [amN]
 ·rw [if_neg c]
  have:(j < i)=(j < i+1):=propext ⟨fun h=>by omega,fun h=>by omega⟩
  simp [amN,this]
theorem amN_end {l:List Fd}:amN l l.length=amts l:=by
 unfold amN amts
 refine List.map_congr_left fun j hj=>?_
 by_cases c:j < l.length
 ·rw [if_pos c]
 ·rw [if_neg c]
  simp [fd,List.getD_eq_getElem?_getD,List.getElem?_eq_none (Nat.le_of_not_lt c)]
theorem amts_get {l:List Fd} {j:Nat} (h:j < 8):(amts l).getD j 0=(fd l j).amt:=by
 simp [amts,List.getD_eq_getElem?_getD,h]
theorem c23 (l:Lg) (hl:l.fs.length≤8):Pure Tryd.prog 23 [l.av] (fun v=>v=ravN (amts l.fs)):=by
 intro h
 refine ACalls.forget (ACalls.of tab mixed Tryd.call23 Tryd.func23 rfl (fi:=⟨20,[2,3,5],[1],none,[]⟩) rfl rfl (Nat.le_of_ble_eq_true rfl) (by decide) ?_)
 unfold startA
 simp only[go_sem]
 repeat' (first|refine st_seq_reg rfl (by first|(simp only[go_sem];rfl)|rfl) (by first|(simp only[go_sem];rfl)|rfl) ?_|refine st_reg rfl (by first|(simp only[go_sem];rfl)|rfl) (by first|(simp only[go_sem];rfl)|rfl) ?_|refine st_op ?_|refine st_det rfl (by simp (disch:=omega) only[go_sem,wr_i64];rfl) ?_|refine st_loc rfl (by simp (disch:=omega) only[go_sem,wr_i64];rfl) ?_|refine st_heap rfl (by simp (disch:=omega) only[go_sem,wr_i64];rfl) ?_|refine st_store (by simp (disch:=omega) only[go_sem,wr_i64];rfl) ?_|refine st_condT rfl ?_|refine st_condF rfl ?_|(refine st_condS rfl ?_ ?_ <;> intro hg <;> (try simp only[dcT,dcF,bnT,bnF] at hg))|refine st_nil ?_|refine st_tN ?_|refine st_seq ?_|refine st_block ?_|refine st_skip ?_|refine st_exit ?_|refine st_ret ?_|refine st_tE ?_|refine st_tR ?_|refine st_bN ?_|refine st_bR ?_|refine st_bH ?_|refine st_bM rfl ?_)
 refine st_loopC (α:=Nat) tab mixed [3] [_] (by repeat (first|exact trivial|refine ⟨rfl,?_⟩)) [2] [_] (by repeat (first|exact trivial|refine ⟨rfl,?_⟩)) (fun i=>[(9,.int .i64 i)]) [(1,_),(2,_),(3,_),(7,_),(8,_)] (fun i=>[(amN l.fs i).map iA]) [_] (fun i=>i≤l.fs.length) (fun i=>l.fs.length - i) (by decide) 0 (Nat.zero_le _) (by (try simp only[go_sem]);repeat' (first|exact trivial|refine And.intro ?_ ?_|rfl|(simp (disch:=omega) only[go_sem,if_yes,if_no,if_no];rfl)|(simp (disch:=omega) only[go_sem,if_yes,if_no,if_no]))) (by (try simp only[go_sem]);repeat' (first|exact trivial|refine And.intro ?_ ?_|rfl|(simp (disch:=omega) only[go_sem,if_yes,if_no,if_no];rfl)|(simp (disch:=omega) only[go_sem,if_yes,if_no,if_no]))) (by first|(simp only[go_sem];rfl)|rfl) (by intro n;simp only[go_sem];rfl) ?_
 intro i c i1 hc
 simp only[go_sem]
 have hn:=amN_len l.fs i
 have hp:=fun (h:i < l.fs.length)=>iA_put (l:=amN l.fs i) (j:=i) (v:=(fd l.fs i).amt) (by omega)
 repeat' (first|refine st_seq_reg rfl (by first|(simp only[go_sem,hn];rfl)|rfl) (by first|(simp only[go_sem,hn];rfl)|rfl) ?_|refine st_reg rfl (by first|(simp only[go_sem,hn];rfl)|rfl) (by first|(simp only[go_sem,hn];rfl)|rfl) ?_|refine st_op ?_|refine st_det rfl (by simp (disch:=omega) only[go_sem,wr_i64,hn];rfl) ?_|refine st_loc rfl (by simp (disch:=omega) only[go_sem,wr_i64,hn];rfl) ?_|refine st_heap rfl (by simp (disch:=omega) only[go_sem,wr_i64,hn];rfl) ?_|refine st_store (by simp (disch:=omega) only[go_sem,wr_i64,hn];rfl) ?_|refine st_condT rfl ?_|refine st_condF rfl ?_|(refine st_condS rfl ?_ ?_ <;> intro hg <;> (try simp only[dcT,dcF,bnT,bnF] at hg))|refine st_nil ?_|refine st_tN ?_|refine st_seq ?_|refine st_block ?_|refine st_skip ?_|refine st_exit ?_|refine st_ret ?_|refine st_tE ?_|refine st_tR ?_|refine st_bN ?_|refine st_bR ?_|refine st_bH ?_|refine st_bM rfl ?_)
 ·refine ⟨i+1,(by show i+1≤l.fs.length;omega),by show l.fs.length - (i+1) < l.fs.length - i;omega,(by (try (simp only[← amN_set (l:=l.fs) (i:=i) (by omega),← hp (by omega),Nat.zero_add]));repeat' (first|exact trivial|refine And.intro ?_ ?_|rfl|(simp (disch:=omega) only[go_sem,if_yes,if_no,if_no];rfl)|(simp (disch:=omega) only[go_sem,if_yes,if_no,if_no]))),(by (try (simp only[← amN_set (l:=l.fs) (i:=i) (by omega),← hp (by omega),Nat.zero_add]));repeat' (first|exact trivial|refine And.intro ?_ ?_|rfl|(simp (disch:=omega) only[go_sem,if_yes,if_no,if_no];rfl)|(simp (disch:=omega) only[go_sem,if_yes,if_no,if_no]))),rfl,(by first|exact HOld.of _ (by omega)|exact HOld.put _ _ _ (by omega))⟩
 ·simp (disch:=omega) only[AEnd,Tryd.results23,aresK,fin,go_sem,implies_true,true_and,and_true,List.reverse_cons,List.reverse_nil,List.append_nil,hn,Lm]
  obtain rfl:i=l.fs.length:=by omega
  rw [amN_end]
theorem sumF_bd {F:Nat→Int} {B:Int}:∀ n,(∀ i,i < n→-B≤F i∧F i≤B)→-(n * B)≤sumF F n∧sumF F n≤n * B
 | 0,_=>by simp [sumF]
 | n+1,h=>by
  have h1:=sumF_bd n (fun i hi=>h i (by omega))
  have h2:=h n (by omega)
  have e:((n+1:Nat):Int) * B=n * B+B:=by rw [Int.natCast_succ,Int.add_mul,Int.one_mul]
  rw [e]
  show -(_)≤sumF F n+F n∧sumF F n+F n≤_
  omega
theorem sumF_le {F:Nat→Int} {n:Nat} (hn:n≤1000) (h:∀ i,i < n→-10000000000≤F i∧F i≤10000000000) {i:Nat} (hi:i≤n):-10000000000000≤sumF F i∧sumF F i≤10000000000000:=by
 have:=sumF_bd (B:=10000000000) i (fun j hj=>h j (by omega))
 omega
theorem c33 (l:List Fd) (g:FuncId) (cap:List AV) (F:Nat→Int) (hc:cap.all noL=true) (hl:l.length≤1000) (hF:∀ i,i < l.length→-10000000000≤F i∧F i≤10000000000)
  (hG:∀ i,i < l.length→Pure Tryd.prog g ([.int .i64 (i:Nat),.agg (fd l i).row] ++ cap) (fun v=>v=.int .i64 (F i))) :
  Pure Tryd.prog 33 [.lst 4 (l.map Fd.row),.fn (.func g) [] cap] (fun v=>v=.int .i64 (sumF F l.length)):=by
 intro h
 refine ACalls.forget (ACalls.of tab mixed Tryd.call33 Tryd.func33 rfl (fi:=⟨23,[7],[],none,[]⟩) rfl rfl (Nat.le_of_ble_eq_true rfl) (by decide) ?_)
 unfold startA
 repeat' (first|refine st_seq_reg rfl (by first|(simp only[go_sem];rfl)|rfl) (by first|(simp only[go_sem];rfl)|rfl) ?_|refine st_reg rfl (by first|(simp only[go_sem];rfl)|rfl) (by first|(simp only[go_sem];rfl)|rfl) ?_|refine st_op ?_|refine st_det rfl (by simp (disch:=omega) only[go_sem,wr_i64];rfl) ?_|refine st_loc rfl (by simp (disch:=omega) only[go_sem,wr_i64];rfl) ?_|refine st_heap rfl (by simp (disch:=omega) only[go_sem,wr_i64];rfl) ?_|refine st_store (by simp (disch:=omega) only[go_sem,wr_i64];rfl) ?_|refine st_condT rfl ?_|refine st_condF rfl ?_|(refine st_condS rfl ?_ ?_ <;> intro hg <;> (try simp only[dcT,dcF,bnT,bnF] at hg))|refine st_nil ?_|refine st_tN ?_|refine st_seq ?_|refine st_block ?_|refine st_skip ?_|refine st_exit ?_|refine st_ret ?_|refine st_tE ?_|refine st_tR ?_|refine st_bN ?_|refine st_bR ?_|refine st_bH ?_|refine st_bM rfl ?_)
 refine st_loopC (α:=Nat) tab mixed [] [] (by repeat (first|exact trivial|refine ⟨rfl,?_⟩)) [] [] (by repeat (first|exact trivial|refine ⟨rfl,?_⟩)) (fun i=>[(10,.int .i64 i),(5,.int .i64 (sumF F i))]) [(1,_),(8,_),(9,_)] (fun _=>[]) [] (fun i=>i≤l.length) (fun i=>l.length - i) (by decide) 0 (Nat.zero_le _) (by (try simp only[go_sem]);repeat' (first|exact trivial|refine And.intro ?_ ?_|rfl|(simp (disch:=omega) only[go_sem,if_yes,if_no,if_no];rfl)|(simp (disch:=omega) only[go_sem,if_yes,if_no,if_no]))) (by (try simp only[go_sem]);repeat' (first|exact trivial|refine And.intro ?_ ?_|rfl|(simp (disch:=omega) only[go_sem,if_yes,if_no,if_no];rfl)|(simp (disch:=omega) only[go_sem,if_yes,if_no,if_no]))) (by first|(simp only[go_sem];rfl)|rfl) (by intro n;simp only[go_sem];rfl) ?_
 intro i c i1 hc
 simp only[go_sem]
 have hs:=sumF_le hl hF i1
 have hf:=hF i
 repeat' (first|refine st_seq_reg rfl (by first|(simp only[go_sem];rfl)|rfl) (by first|(simp only[go_sem];rfl)|rfl) ?_|refine st_reg rfl (by first|(simp only[go_sem];rfl)|rfl) (by first|(simp only[go_sem];rfl)|rfl) ?_|refine st_op ?_|refine st_det rfl (by simp (disch:=omega) only[go_sem,wr_i64];rfl) ?_|refine st_loc rfl (by simp (disch:=omega) only[go_sem,wr_i64];rfl) ?_|refine st_heap rfl (by simp (disch:=omega) only[go_sem,wr_i64];rfl) ?_|refine st_store (by simp (disch:=omega) only[go_sem,wr_i64];rfl) ?_|(refine st_pureV (by first|(simp only[go_sem];rfl)|rfl) (by first|(simp (disch:=omega) only[go_sem];rfl)|rfl) rfl (hG i (by omega)) (by first|(simp only[go_sem];rfl)|rfl) (by intro n;first|(simp (disch:=omega) only[go_sem];rfl)|rfl) ?_;intro v n hv hn;subst hv)|refine st_condT rfl ?_|refine st_condF rfl ?_|(refine st_condS rfl ?_ ?_ <;> intro hg <;> (try simp only[dcT,dcF,bnT,bnF] at hg))|refine st_nil ?_|refine st_tN ?_|refine st_seq ?_|refine st_block ?_|refine st_skip ?_|refine st_exit ?_|refine st_ret ?_|refine st_tE ?_|refine st_tR ?_|refine st_bN ?_|refine st_bR ?_|refine st_bH ?_|refine st_bM rfl ?_)
 ·refine ⟨i+1,(by show i+1≤l.length;omega),by show l.length - (i+1) < l.length - i;omega,(by repeat' (first|exact trivial|refine And.intro ?_ ?_|rfl|(simp (disch:=omega) only[go_sem,if_yes,if_no,if_no];rfl)|(simp (disch:=omega) only[go_sem,if_yes,if_no,if_no]))),(by repeat' (first|exact trivial|refine And.intro ?_ ?_|rfl|(simp (disch:=omega) only[go_sem,if_yes,if_no,if_no];rfl)|(simp (disch:=omega) only[go_sem,if_yes,if_no,if_no]))),rfl,(by first|exact HOld.of _ (by omega)|exact HOld.put _ _ _ (by omega))⟩
 ·simp (disch:=omega) only[AEnd,Tryd.results33,aresK,fin,go_sem,implies_true,true_and,and_true,List.reverse_cons,List.reverse_nil]
  obtain rfl:i=l.length:=by omega
  rfl
end Go.Proofs.YtefogfgddofdmaaDoor
