/- What the best plan of a shop is, as plain functions; which states the search for it comes to. -/
import Derived.Test.YtaijkalhkgjakaaGreatDoorP1
set_option linter.all false
set_option linter.unusedSimpArgs false
set_option linter.unusedVariables false
namespace Go.Proofs.YtaijkalhkgjakaaGreatDoor
open Go.Av
structure Wk where
 a:Bool
 b:Bool
 c:Bool
 deriving DecidableEq,Inhabited
structure Jb where
 f:Int
 s:Int
 d:Int
 deriving DecidableEq,Inhabited
structure Sf where
 w:Int
 d:Int
 deriving DecidableEq,Inhabited
structure Sp where
 ws:List Wk
 js:List Jb
 deriving DecidableEq
def Wk.can (w:Wk) (s:Int):Bool:=if s=1 then w.a else if s=2 then w.b else w.c
def jOf (js:List Jb) (i:Nat):Jb:=js.getD i ⟨0,0,0⟩
def Sp.j (S:Sp) (i:Nat):Jb:=jOf S.js i
def Sp.wk (S:Sp) (i:Nat):Wk:=S.ws.getD i ⟨false,false,false⟩
def Sp.sch (S:Sp):Sch:=⟨S.js.length,S.ws.length,fun i=>(S.j i).f.toNat,fun i=>(S.j i).d,fun w i=>(S.wk w).can (S.j i).s⟩
def Jb.Ok (j:Jb):Prop:=0≤j.f∧j.f≤6∧1≤j.s∧j.s≤3∧1≤j.d∧j.d≤30
structure Sp.Ok (S:Sp):Prop where
 m0:1≤S.ws.length
 m4:S.ws.length≤4
 n7:S.js.length≤7
 job:∀ j ∈ S.js,j.Ok
theorem Sp.Ok.j {S:Sp} (h:S.Ok) {i:Nat} (hi:i < S.js.length):(S.j i).Ok:=by
 unfold Sp.j jOf
 rw [List.getD_eq_getElem?_getD,List.getElem?_eq_getElem hi]
 exact h.job _ (List.getElem_mem hi)
theorem Sp.Ok.d {S:Sp} (h:S.Ok):∀ i,i < S.sch.n→1≤S.sch.d i:=fun i hi=>(h.j hi).2.2.2.2.1
structure Dr where
 day:List Int
 pl:Nat
 hands:List Int
 fls:List Int
 last:Int
 deriving DecidableEq
def dr0:Dr:=⟨List.replicate 7 0,0,List.replicate 4 0,List.replicate 7 0,0⟩
def withD (js:List Jb) (x:Dr) (job w:Nat):Dr :=
 let j:=jOf js job
 let l:=max (x.hands.getD w 0) (x.fls.getD j.f.toNat 0)
 { day:=x.day.set job l,pl:=x.pl ||| 2 ^ job,hands:=x.hands.set w (l+j.d),fls:=x.fls.set j.f.toNat (l+j.d),last:=l }
def befJ (js:List Jb) (f:Int):Nat→Int
 | 0=>-1
 | k+1=>if (jOf js k).f=f then k else befJ js f k
theorem befJ_cases (js:List Jb) (f:Int) (n:Nat):(befJ js f n = -1∧∀ k,k < n→(jOf js k).f ≠ f) ∨ ∃ k:Nat,befJ js f n=k∧k < n∧(jOf js k).f=f∧∀ k',k < k'→k' < n→(jOf js k').f ≠ f:=by
 induction n with
 | zero=>left;exact ⟨rfl,fun k h=>by omega⟩
 | succ n ih =>
  simp only[befJ]
  split
  ·rename_i h
   right
   exact ⟨n,rfl,by omega,h,fun k' h1 h2=>by omega⟩
  ·rename_i h
   rcases ih with ⟨a,b⟩|⟨k,a,b,c,d⟩
   ·left
    refine ⟨a,fun k hk=>?_⟩
    by_cases e:k=n
    ·subst e;exact h
    ·exact b k (by omega)
   ·right
    refine ⟨k,a,by omega,c,fun k' h1 h2=>?_⟩
    by_cases e:k'=n
    ·subst e;exact h
    ·exact d k' h1 (by omega)
def readyD (js:List Jb) (x:Dr) (job:Nat):Bool :=
 !x.pl.testBit job && (let k:=befJ js (jOf js job).f job;decide (k < 0) || x.pl.testBit k.toNat)
def twin (S:Sp) (x:Dr) (i:Nat):Bool:=(List.range i).any fun k=>decide (S.wk k=S.wk i) && decide (x.hands.getD k 0=x.hands.getD i 0)
def nextAt (S:Sp) (x:Dr) (job i:Nat):Option Dr :=
 if readyD S.js x job && (S.wk i).can (S.j job).s && !twin S x i && decide (x.last≤(withD S.js x job i).last) then some (withD S.js x job i) else none
def nextD (S:Sp) (x:Dr):List Dr:=(List.range S.js.length).flatMap fun job=>(List.range S.ws.length).filterMap (nextAt S x job)
inductive Rch (S:Sp):Dr→Dr→Prop
 | refl (x:Dr):Rch S x x
 | step {x y z:Dr}:y ∈ nextD S x→Rch S y z→Rch S x z
theorem mem_nextD {S:Sp} {x y:Dr}:y ∈ nextD S x ↔ ∃ job i,job < S.js.length∧i < S.ws.length∧nextAt S x job i=some y:=by
 simp only[nextD,List.mem_flatMap,List.mem_range,List.mem_filterMap]
 constructor
 ·rintro ⟨job,h1,i,h2,h3⟩;exact ⟨job,i,h1,h2,h3⟩
 ·rintro ⟨job,i,h1,h2,h3⟩;exact ⟨job,h1,i,h2,h3⟩
structure Dr.Sz (S:Sp) (x:Dr):Prop where
 day:x.day.length=7
 hands:x.hands.length=4
 fls:x.fls.length=7
 pl:x.pl < 2 ^ S.js.length
 pad:∀ i,S.js.length≤i→x.day.getD i 0=0
theorem getD_set {α:Type} (l:List α) (i k:Nat) (v d:α) (h:i < l.length):(l.set i v).getD k d=if k=i then v else l.getD k d:=by
 rw [List.getD_eq_getElem?_getD,List.getElem?_set]
 by_cases e:i=k
 ·subst e;simp [h]
 ·rw [if_neg e,if_neg (Ne.symm e),List.getD_eq_getElem?_getD]
theorem testBit_put (p i k:Nat):(p ||| 2 ^ i).testBit k=(if k=i then true else p.testBit k):=by
 rw [Nat.testBit_or,Nat.testBit_two_pow]
 by_cases e:k=i
 ·subst e;simp
 ·have:¬ i=k:=fun h=>e h.symm
  simp [e,this]
theorem Dr.Sz.withD {S:Sp} (hS:S.Ok) {x:Dr} (h:x.Sz S) {job w:Nat} (hj:job < S.js.length):(withD S.js x job w).Sz S:=by
 refine ⟨by simp [Go.Proofs.YtaijkalhkgjakaaGreatDoor.withD,h.day],by simp [Go.Proofs.YtaijkalhkgjakaaGreatDoor.withD,h.hands],by simp [Go.Proofs.YtaijkalhkgjakaaGreatDoor.withD,h.fls],?_,?_⟩
 ·exact Nat.or_lt_two_pow h.pl (Nat.pow_lt_pow_right (by omega) hj)
 ·intro i hi
  have:=hS.n7
  simp only[Go.Proofs.YtaijkalhkgjakaaGreatDoor.withD]
  rw [getD_set _ _ _ _ _ (by rw [h.day];omega),if_neg (by omega)]
  exact h.pad i hi
structure DAt (S:Sp) (W:Nat→Nat) (T:Nat→Int) (x:Dr):Prop where
 at_:S.sch.At W T (fun i=>x.pl.testBit i) (fun w=>x.hands.getD w 0) (fun f=>x.fls.getD f 0) x.last
 sz:x.Sz S
 day:∀ i,i < S.js.length→x.pl.testBit i=true→x.day.getD i 0=T i
 hn:∀ w,0≤x.hands.getD w 0
def done (S:Sp) (x:Dr):Bool:=decide (x.pl=2 ^ S.js.length - 1)
theorem done_iff {S:Sp} {x:Dr} (h:x.Sz S):done S x=true ↔ ∀ i,i < S.js.length→x.pl.testBit i=true:=by
 simp only[done,decide_eq_true_eq]
 constructor
 ·intro e i hi
  rw [e,Nat.testBit_two_pow_sub_one]
  simpa using hi
 ·intro e
  apply Nat.eq_of_testBit_eq
  intro i
  rw [Nat.testBit_two_pow_sub_one]
  by_cases hi:i < S.js.length
  ·rw [e i hi];simp [hi]
  ·rw [Nat.testBit_lt_two_pow (Nat.lt_of_lt_of_le h.pl (Nat.pow_le_pow_right (by omega) (by omega)))];simp [hi]
def open_ (x:Dr):Nat→Nat
 | 0=>0
 | n+1=>open_ x n+if x.pl.testBit n then 0 else 1
theorem open_with {js:List Jb} {x:Dr} {job w:Nat} (hp:x.pl.testBit job=false):∀ n,open_ (withD js x job w) n+(if job < n then 1 else 0)=open_ x n:=by
 intro n
 induction n with
 | zero=>simp [open_]
 | succ n ih =>
  simp only[open_]
  have hb:(withD js x job w).pl.testBit n=(if n=job then true else x.pl.testBit n):=by simp only[withD];exact testBit_put _ _ _
  rw [hb]
  by_cases e:n=job
  ·subst e
   simp only[if_true,hp,Bool.false_eq_true,if_false]
   rw [if_neg (by omega)] at ih
   rw [if_pos (by omega)];omega
  ·rw [if_neg e]
   by_cases h1:job < n
   ·rw [if_pos h1] at ih
    have e1:(if job < n+1 then 1 else 0)=1:=if_pos (by omega)
    rw [e1];omega
   ·rw [if_neg h1] at ih
    have e1:(if job < n+1 then 1 else 0)=0:=if_neg (by omega)
    rw [e1];omega
theorem exists_least {p:Nat→Bool}:∀ {w:Nat},p w=true→∃ k,k≤w∧p k=true∧∀ j,j < k→p j=false:=by
 intro w
 induction w using Nat.strongRecOn with
 | _ w ih =>
  intro h
  by_cases hx:∃ j,j < w∧p j=true
  ·obtain ⟨j,hj,hp⟩:=hx
   obtain ⟨k,a,b,c⟩:=ih j hj hp
   exact ⟨k,by omega,b,c⟩
  ·exact ⟨w,Nat.le_refl _,h,fun j hj=>by cases hp:p j with|false=>rfl|true=>exact absurd ⟨j,hj,hp⟩ hx⟩
theorem DAt.put {S:Sp} (hS:S.Ok) {W:Nat→Nat} {T:Nat→Int} {x:Dr} (D:DAt S W T x) {i:Nat} (hi:i < S.js.length) (hp:x.pl.testBit i=false) (hmin:∀ k,k < S.js.length→x.pl.testBit k=false→T i≤T k) :
  DAt S W T (withD S.js x i (W i))∧(withD S.js x i (W i)).last=T i∧(∀ k,k < i→(S.j k).f=(S.j i).f→x.pl.testBit k=true):=by
 have hd:=hS.d
 have A:=D.at_
 obtain ⟨hwm,hcan,hT0⟩:=A.val.w i hi
 have hwm':W i < S.ws.length:=hwm
 have hday:=A.day hd hi hp hmin (D.hn (W i))
 have hN:=A.next hd hi hp hmin
 have hf7:(S.j i).f.toNat < 7:=by have:=hS.j hi;unfold Jb.Ok at this;omega
 have hl:(withD S.js x i (W i)).last=T i:=hday
 have hm4:=hS.m4
 refine ⟨⟨?_,D.sz.withD hS hi,?_,?_⟩,hl,fun k hk hf=>A.ready hd hi hmin hk (show (S.j k).f.toNat=(S.j i).f.toNat by rw [hf])⟩
 ·have e1:(fun j=>(withD S.js x i (W i)).pl.testBit j)=upd (fun j=>x.pl.testBit j) i true:=by
   funext j;simp only[withD,upd_apply];exact testBit_put _ _ _
  have e2:(fun w=>(withD S.js x i (W i)).hands.getD w 0)=upd (fun w=>x.hands.getD w 0) (W i) (T i+(S.j i).d):=by
   funext w;simp only[upd_apply]
   have:(withD S.js x i (W i)).hands=x.hands.set (W i) (T i+(S.j i).d):=by rw [← hl];rfl
   rw [this,getD_set _ _ _ _ _ (by rw [D.sz.hands];omega)]
  have e3:(fun f=>(withD S.js x i (W i)).fls.getD f 0)=upd (fun f=>x.fls.getD f 0) (S.j i).f.toNat (T i+(S.j i).d):=by
   funext w;simp only[upd_apply]
   have:(withD S.js x i (W i)).fls=x.fls.set (S.j i).f.toNat (T i+(S.j i).d):=by rw [← hl];rfl
   rw [this,getD_set _ _ _ _ _ (by rw [D.sz.fls];exact hf7)]
  rw [e1,e2,e3,hl]
  exact hN
 ·intro j hj hpj
  have hn7:=hS.n7
  have:(withD S.js x i (W i)).day=x.day.set i (T i):=by rw [← hl];rfl
  rw [this,getD_set _ _ _ _ _ (by rw [D.sz.day];omega)]
  split
  ·rename_i e;rw [e]
  ·rename_i e
   refine D.day j hj ?_
   have e1:(withD S.js x i (W i)).pl.testBit j=(if j=i then true else x.pl.testBit j):=testBit_put _ _ _
   rw [e1,if_neg e] at hpj
   exact hpj
 ·intro w
  have:(withD S.js x i (W i)).hands=x.hands.set (W i) (T i+(S.j i).d):=by rw [← hl];rfl
  rw [this,getD_set _ _ _ _ _ (by rw [D.sz.hands];omega)]
  have:=(hd i hi)
  have h3:S.sch.d i=(S.j i).d:=rfl
  split
  ·omega
  ·exact D.hn w
theorem DAt.step {S:Sp} (hS:S.Ok) {W:Nat→Nat} {T:Nat→Int} {x:Dr} (D:DAt S W T x) (h:∃ i,i < S.js.length∧x.pl.testBit i=false) :
  ∃ y W' job,y ∈ nextD S x∧DAt S W' T y∧job < S.js.length∧x.pl.testBit job=false∧∃ w,y=withD S.js x job w:=by
 obtain ⟨i,hi,hp,hmin⟩:=exists_first (T:=T) h
 have hd:=hS.d
 have A:=D.at_
 obtain ⟨hwm,hcan,hT0⟩:=A.val.w i hi
 obtain ⟨k',hk',hpk,hleast⟩:=exists_least (p:=fun k=>decide (S.wk k=S.wk (W i)) && decide (x.hands.getD k 0=x.hands.getD (W i) 0)) (w:=W i) (by simp)
 simp only[Bool.and_eq_true,decide_eq_true_eq] at hpk
 have hk'm:k' < S.ws.length:=Nat.lt_of_le_of_lt hk' hwm
 have A':=A.swap hd (a:=W i) (b:=k') hwm hk'm (fun j=>by show (S.wk (W i)).can _=(S.wk k').can _;rw [hpk.1]) hpk.2.symm
 have D':DAt S (fun j=>if x.pl.testBit j=true then W j else swp (W i) k' (W j)) T x:=⟨A',D.sz,D.day,D.hn⟩
 have hW':(if x.pl.testBit i=true then W i else swp (W i) k' (W i))=k':=by
  simp only[hp,Bool.false_eq_true,if_false,swp,if_true]
 obtain ⟨D2,hl,hrd⟩:=D'.put hS hi hp hmin
 rw [hW'] at D2 hl
 have hready:readyD S.js x i=true:=by
  unfold readyD
  simp only[hp,Bool.not_false,Bool.true_and,Bool.or_eq_true,decide_eq_true_eq]
  rcases befJ_cases S.js (jOf S.js i).f i with ⟨e,_⟩|⟨k,e,hk,hf,_⟩
  ·left;omega
  ·right
   rw [e]
   exact hrd k hk hf
 have htw:twin S x k'=false:=by
  unfold twin
  rw [List.any_eq_false]
  intro j hj
  have:=hleast j (by simpa using hj)
  rw [hpk.1,hpk.2]
  simpa using this
 refine ⟨withD S.js x i k',_,i,?_,D2,hi,hp,k',rfl⟩
 refine mem_nextD.2 ⟨i,k',hi,hk'm,?_⟩
 unfold nextAt
 rw [hready,htw,hl]
 have h1:(S.wk k').can (S.j i).s=true:=by rw [hpk.1];exact hcan
 have h2:x.last≤T i:=A.last i hi hp
 simp [h1,h2]
theorem getD_rep (n k:Nat):(List.replicate n (0:Int)).getD k 0=0:=by
 rw [List.getD_eq_getElem?_getD,List.getElem?_replicate];split <;> rfl
theorem sz0 (S:Sp):dr0.Sz S:=⟨rfl,rfl,rfl,Nat.two_pow_pos _,fun i _=>getD_rep 7 i⟩
theorem DAt.start {S:Sp} {W:Nat→Nat} {T:Nat→Int} (h:S.sch.Val W T) (hs:S.sch.SA W T):DAt S W T dr0:=by
 have A:=Sch.At.start h hs
 refine ⟨?_,sz0 S,?_,fun w=>by rw [show dr0.hands=List.replicate 4 0 from rfl,getD_rep];exact Int.le_refl _⟩
 ·have e1:(fun i=>dr0.pl.testBit i)=fun _=>false:=by funext i;simp [dr0]
  have e2:(fun w=>dr0.hands.getD w 0)=fun _=>0:=by funext w;exact getD_rep 4 w
  have e3:(fun w=>dr0.fls.getD w 0)=fun _=>0:=by funext w;exact getD_rep 7 w
  rw [e1,e2,e3]
  exact A
 ·intro i _ h;simp [dr0] at h
structure PAt (S:Sp) (W:Nat→Nat) (x:Dr):Prop where
 sz:x.Sz S
 v:∀ i,i < S.js.length→x.pl.testBit i=true→W i < S.ws.length∧(S.wk (W i)).can (S.j i).s=true∧0≤x.day.getD i 0
 z:∀ i,i < S.js.length→x.pl.testBit i=false→x.day.getD i 0=0
 ord:∀ k i,k < i→i < S.js.length→x.pl.testBit i=true→(S.j k).f=(S.j i).f→x.pl.testBit k=true∧x.day.getD k 0+(S.j k).d≤x.day.getD i 0
 clash:∀ k i,k < i→i < S.js.length→x.pl.testBit k=true→x.pl.testBit i=true→W k=W i→x.day.getD k 0+(S.j k).d≤x.day.getD i 0 ∨ x.day.getD i 0+(S.j i).d≤x.day.getD k 0
 h1:∀ k,k < S.js.length→x.pl.testBit k=true→x.day.getD k 0+(S.j k).d≤x.hands.getD (W k) 0
 h2:∀ w,x.hands.getD w 0=0 ∨ ∃ k,k < S.js.length∧x.pl.testBit k=true∧W k=w∧x.day.getD k 0+(S.j k).d=x.hands.getD w 0
 f1:∀ k,k < S.js.length→x.pl.testBit k=true→x.day.getD k 0+(S.j k).d≤x.fls.getD (S.j k).f.toNat 0
 f2:∀ g,x.fls.getD g 0=0 ∨ ∃ k,k < S.js.length∧x.pl.testBit k=true∧(S.j k).f.toNat=g∧x.day.getD k 0+(S.j k).d=x.fls.getD g 0
 last:0≤x.last
theorem PAt.start (S:Sp) (W:Nat→Nat):PAt S W dr0:=by
 have hb:∀ i,dr0.pl.testBit i=false:=fun i=>by simp [dr0]
 refine ⟨sz0 S,?_,fun i _ _=>getD_rep 7 i,?_,?_,?_,fun w=>.inl (getD_rep 4 w),?_,fun w=>.inl (getD_rep 7 w),Int.le_refl _⟩
 ·intro i _ h;rw [hb] at h;cases h
 ·intro k i _ _ h;rw [hb] at h;cases h
 ·intro k i _ _ h;rw [hb] at h;cases h
 ·intro k _ h;rw [hb] at h;cases h
 ·intro k _ h;rw [hb] at h;cases h
theorem PAt.nonneg {S:Sp} (hS:S.Ok) {W:Nat→Nat} {x:Dr} (P:PAt S W x):(∀ i,0≤x.day.getD i 0)∧(∀ w,0≤x.hands.getD w 0)∧∀ g,0≤x.fls.getD g 0:=by
 have hd:∀ i,0≤x.day.getD i 0:=by
  intro i
  by_cases hi:i < S.js.length
  ·cases hb:x.pl.testBit i with
   | true=>exact (P.v i hi hb).2.2
   | false=>rw [P.z i hi hb];exact Int.le_refl _
  ·rw [P.sz.pad i (by omega)];exact Int.le_refl _
 refine ⟨hd,fun w=>?_,fun g=>?_⟩
 ·rcases P.h2 w with h|⟨k,hk,_,_,e⟩
  ·omega
  ·have:=hd k;have:=hS.d k hk;have h3:S.sch.d k=(S.j k).d:=rfl;omega
 ·rcases P.f2 g with h|⟨k,hk,_,_,e⟩
  ·omega
  ·have:=hd k;have:=hS.d k hk;have h3:S.sch.d k=(S.j k).d:=rfl;omega
theorem readyD_iff {js:List Jb} {x:Dr} {job:Nat} (h:readyD js x job=true):x.pl.testBit job=false∧∀ k,k < job→(jOf js k).f=(jOf js job).f→(∀ k',k < k'→k' < job→(jOf js k').f ≠ (jOf js job).f)→x.pl.testBit k=true:=by
 unfold readyD at h
 simp only[Bool.and_eq_true,Bool.not_eq_true',Bool.or_eq_true,decide_eq_true_eq] at h
 refine ⟨h.1,fun k hk hf hlast=>?_⟩
 rcases befJ_cases js (jOf js job).f job with ⟨e,hno⟩|⟨k2,e,hk2,hf2,hno⟩
 ·exact absurd hf (hno k hk)
 ·have:k=k2:=by
   rcases Nat.lt_trichotomy k k2 with h1|h1|h1
   ·exact absurd hf2 (hlast k2 h1 hk2)
   ·exact h1
   ·exact absurd hf (hno k h1 hk)
  subst this
  rcases h.2 with h2|h2
  ·omega
  ·rw [e] at h2;simpa using h2
theorem exists_last {p:Nat→Prop} [DecidablePred p]:∀ (n:Nat),(∃ k,k < n∧p k)→∃ k,k < n∧p k∧∀ j,k < j→j < n→¬ p j:=by
 intro n
 induction n with
 | zero=>rintro ⟨k,h,_⟩;omega
 | succ n ih =>
  rintro ⟨k,hk,hp⟩
  by_cases hn:p n
  ·exact ⟨n,by omega,hn,fun j h1 h2=>by omega⟩
  ·obtain ⟨k2,a,b,c⟩:=ih ⟨k,by
    rcases Nat.lt_or_ge k n with h|h
    ·exact h
    ·have:k=n:=by omega
     subst this;exact absurd hp hn,hp⟩
   exact ⟨k2,by omega,b,fun j h1 h2=>by
    by_cases e:j=n
    ·subst e;exact hn
    ·exact c j h1 (by omega)⟩
theorem PAt.ready {S:Sp} {W:Nat→Nat} {x:Dr} (P:PAt S W x) {job:Nat} (hj:job < S.js.length) (h:readyD S.js x job=true):x.pl.testBit job=false∧∀ k,k < job→(S.j k).f=(S.j job).f→x.pl.testBit k=true:=by
 obtain ⟨h1,h2⟩:=readyD_iff h
 refine ⟨h1,fun k hk hf=>?_⟩
 obtain ⟨k2,hk2,hf2,hno⟩:=exists_last (p:=fun k=>(S.j k).f=(S.j job).f) job ⟨k,hk,hf⟩
 have hb:=h2 k2 hk2 hf2 hno
 rcases Nat.lt_trichotomy k k2 with h3|h3|h3
 ·exact (P.ord k k2 h3 (by omega) hb (hf.trans hf2.symm)).1
 ·subst h3;exact hb
 ·exact absurd hf (hno k h3 hk)
theorem nextAt_some {S:Sp} {x y:Dr} {job i:Nat} (h:nextAt S x job i=some y):readyD S.js x job=true∧(S.wk i).can (S.j job).s=true∧x.last≤y.last∧y=withD S.js x job i:=by
 unfold nextAt at h
 split at h
 ·rename_i hc
  simp only[Bool.and_eq_true,decide_eq_true_eq] at hc
  cases h
  exact ⟨hc.1.1.1,hc.1.1.2,hc.2,rfl⟩
 ·cases h
theorem PAt.next {S:Sp} (hS:S.Ok) {W:Nat→Nat} {x:Dr} (P:PAt S W x) {job i:Nat} (hj:job < S.js.length) (hi:i < S.ws.length) (hr:readyD S.js x job=true) (hc:(S.wk i).can (S.j job).s=true) :
  PAt S (upd W job i) (withD S.js x job i):=by
 obtain ⟨hp,hall⟩:=P.ready hj hr
 obtain ⟨n1,n2,n3⟩:=P.nonneg hS
 have hn7:=hS.n7
 have hm4:=hS.m4
 have hjk:=hS.j hj
 have hf7:(S.j job).f.toNat < 7:=by unfold Jb.Ok at hjk;omega
 have hdj:1≤(S.j job).d:=hjk.2.2.2.2.1
 generalize hl:(withD S.js x job i).last=l
 have hl':max (x.hands.getD i 0) (x.fls.getD (S.j job).f.toNat 0)=l:=hl
 have hl0:0≤l:=by have:=n2 i;omega
 have tb:∀ k,(withD S.js x job i).pl.testBit k=(if k=job then true else x.pl.testBit k):=fun k=>testBit_put _ _ _
 have dy:∀ k,(withD S.js x job i).day.getD k 0=if k=job then l else x.day.getD k 0:=by
  intro k
  have:(withD S.js x job i).day=x.day.set job l:=by rw [← hl];rfl
  rw [this,getD_set _ _ _ _ _ (by rw [P.sz.day];omega)]
 have hd:∀ k,(withD S.js x job i).hands.getD k 0=if k=i then l+(S.j job).d else x.hands.getD k 0:=by
  intro k
  have:(withD S.js x job i).hands=x.hands.set i (l+(S.j job).d):=by rw [← hl];rfl
  rw [this,getD_set _ _ _ _ _ (by rw [P.sz.hands];omega)]
 have fd:∀ k,(withD S.js x job i).fls.getD k 0=if k=(S.j job).f.toNat then l+(S.j job).d else x.fls.getD k 0:=by
  intro k
  have:(withD S.js x job i).fls=x.fls.set (S.j job).f.toNat (l+(S.j job).d):=by rw [← hl];rfl
  rw [this,getD_set _ _ _ _ _ (by rw [P.sz.fls];exact hf7)]
 refine ⟨P.sz.withD hS hj,?_,?_,?_,?_,?_,?_,?_,?_,by rw [hl];exact hl0⟩
 ·intro k hk hb
  rw [tb] at hb
  rw [dy,upd_apply]
  split
  ·rename_i e;subst e;exact ⟨hi,hc,hl0⟩
  ·rename_i e;rw [if_neg e] at hb;exact P.v k hk hb
 ·intro k hk hb
  rw [tb] at hb
  rw [dy]
  split
  ·rename_i e;rw [if_pos e] at hb;cases hb
  ·rename_i e;rw [if_neg e] at hb;exact P.z k hk hb
 ·intro k j hkj hjl hb hf
  rw [tb] at hb
  rw [tb,dy,dy]
  by_cases e:j=job
  ·subst e
   have hk:=hall k hkj hf
   have:=P.f1 k (by omega) hk
   rw [hf] at this
   rw [if_neg (by omega),if_neg (by omega),if_pos rfl]
   exact ⟨hk,by omega⟩
  ·rw [if_neg e] at hb
   have h1:=P.ord k j hkj hjl hb hf
   have e2:k ≠ job:=by rintro rfl;rw [hp] at h1;exact absurd h1.1 (by simp)
   rw [if_neg e2,if_neg e2,if_neg e]
   exact h1
 ·intro k j hkj hjl hbk hbj hw
  rw [tb] at hbk hbj
  rw [dy,dy]
  rw [upd_apply,upd_apply] at hw
  by_cases e:j=job
  ·subst e
   rw [if_neg (by omega)] at hbk hw
   rw [if_pos rfl] at hw
   have:=P.h1 k (by omega) hbk
   rw [hw] at this
   rw [if_neg (by omega),if_pos rfl]
   left;omega
  ·by_cases e2:k=job
   ·subst e2
    rw [if_neg e] at hbj hw
    rw [if_pos rfl] at hw
    have:=P.h1 j (by omega) hbj
    rw [← hw] at this
    rw [if_pos rfl,if_neg e]
    right;omega
   ·rw [if_neg e] at hbj;rw [if_neg e2] at hbk
    rw [if_neg e,if_neg e2] at hw
    rw [if_neg e,if_neg e2]
    exact P.clash k j hkj hjl hbk hbj hw
 ·intro k hk hb
  rw [tb] at hb
  rw [dy,hd,upd_apply]
  by_cases e:k=job
  ·subst e;simp
  ·rw [if_neg e] at hb
   have:=P.h1 k hk hb
   rw [if_neg e,if_neg e]
   split
   ·rename_i e2;rw [e2] at this;omega
   ·exact this
 ·intro w
  rw [hd]
  split
  ·rename_i e
   refine .inr ⟨job,hj,by rw [tb,if_pos rfl],by rw [upd_same,e],by rw [dy,if_pos rfl]⟩
  ·rcases P.h2 w with h|⟨k,hk,hb,hw,he⟩
   ·exact .inl h
   ·have e2:k ≠ job:=by rintro rfl;rw [hp] at hb;cases hb
    exact .inr ⟨k,hk,by rw [tb,if_neg e2];exact hb,by rw [upd_ne _ _ e2];exact hw,by rw [dy,if_neg e2];exact he⟩
 ·intro k hk hb
  rw [tb] at hb
  rw [dy,fd]
  by_cases e:k=job
  ·subst e;simp
  ·rw [if_neg e] at hb
   have:=P.f1 k hk hb
   rw [if_neg e]
   split
   ·rename_i e2;rw [e2] at this;omega
   ·exact this
 ·intro g
  rw [fd]
  split
  ·rename_i e
   refine .inr ⟨job,hj,by rw [tb,if_pos rfl],e.symm,by rw [dy,if_pos rfl]⟩
  ·rcases P.f2 g with h|⟨k,hk,hb,hw,he⟩
   ·exact .inl h
   ·have e2:k ≠ job:=by rintro rfl;rw [hp] at hb;cases hb
    exact .inr ⟨k,hk,by rw [tb,if_neg e2];exact hb,hw,by rw [dy,if_neg e2];exact he⟩
theorem PAt.of_next {S:Sp} (hS:S.Ok) {W:Nat→Nat} {x y:Dr} (P:PAt S W x) (h:y ∈ nextD S x):∃ W',PAt S W' y:=by
 obtain ⟨job,i,hj,hi,hs⟩:=mem_nextD.1 h
 obtain ⟨a,b,_,rfl⟩:=nextAt_some hs
 exact ⟨_,P.next hS hj hi a b⟩
theorem PAt.val {S:Sp} (hS:S.Ok) {W:Nat→Nat} {x:Dr} (P:PAt S W x) (hd:done S x=true):S.sch.Val W (fun i=>x.day.getD i 0):=by
 have hall:=(done_iff P.sz).1 hd
 refine ⟨fun i hi=>P.v i hi (hall i hi),fun k i hki hi hf=>?_,fun k i hki hi hw=>P.clash k i hki hi (hall k (Nat.lt_trans hki hi)) (hall i hi) hw⟩
 have hi':i < S.js.length:=hi
 have h1:=(hS.j hi').1
 have h2:=(hS.j (Nat.lt_trans hki hi')).1
 have hf':(S.j k).f.toNat=(S.j i).f.toNat:=hf
 exact (P.ord k i hki hi (hall i hi) (by omega)).2
def lstep (js:List Jb) (x:Dr):Nat→List Int × List Int × Int
 | 0=>(x.fls,x.day,0)
 | i+1 =>
  let r:=lstep js x i
  if x.pl.testBit i then r else
   let j:=jOf js i
   let t:=max x.last (r.1.getD j.f.toNat 0)
   (r.1.set j.f.toNat (t+j.d),r.2.1.set i t,r.2.2+j.d)
def freeD (x:Dr):Nat→Int
 | 0=>0
 | i+1=>freeD x i+x.hands.getD i 0
def maxL:List Int→Int
 | []=>0
 | a :: l=>l.foldl max a
def leastD (S:Sp) (x:Dr):Int × List Int :=
 let r:=lstep S.js x S.js.length
 let l0:=maxL (r.1 ++ x.hands)
 let m:Int:=S.ws.length
 (if 0 < r.2.2 then max l0 ((freeD x S.ws.length+r.2.2+m - 1).tdiv m) else l0,r.2.1)
theorem foldl_max (l:List Int):∀ a,a≤l.foldl max a∧(∀ x ∈ l,x≤l.foldl max a)∧(l.foldl max a=a ∨ l.foldl max a ∈ l):=by
 induction l with
 | nil=>intro a;simp
 | cons b l ih =>
  intro a
  obtain ⟨h1,h2,h3⟩:=ih (max a b)
  simp only[List.foldl_cons]
  refine ⟨by omega,?_,?_⟩
  ·intro x hx
   rcases List.mem_cons.1 hx with rfl|hx
   ·omega
   ·exact h2 x hx
  ·rcases h3 with h3|h3
   ·rw [h3]
    rcases Int.le_total a b with h|h
    ·right;rw [Int.max_eq_right h];simp
    ·left;exact Int.max_eq_left h
   ·right;exact List.mem_cons_of_mem _ h3
theorem maxL_ge {l:List Int} {x:Int} (h:x ∈ l):x≤maxL l:=by
 cases l with
 | nil=>cases h
 | cons a l =>
  obtain ⟨h1,h2,_⟩:=foldl_max l a
  rcases List.mem_cons.1 h with rfl|h
  ·exact h1
  ·exact h2 x h
theorem maxL_mem {l:List Int} (h:l ≠ []):maxL l ∈ l:=by
 cases l with
 | nil=>exact absurd rfl h
 | cons a l =>
  obtain ⟨_,_,h3⟩:=foldl_max l a
  simp only[maxL]
  rcases h3 with h3|h3
  ·rw [h3];simp
  ·exact List.mem_cons_of_mem _ h3
theorem mem_getD {l:List Int} {x:Int} (h:x ∈ l):∃ i,i < l.length∧l.getD i 0=x:=by
 obtain ⟨i,hi,e⟩:=List.getElem_of_mem h
 exact ⟨i,hi,by rw [List.getD_eq_getElem?_getD,List.getElem?_eq_getElem hi];exact e⟩
theorem getD_mem {l:List Int} {i:Nat} (h:i < l.length):l.getD i 0 ∈ l:=by
 rw [List.getD_eq_getElem?_getD,List.getElem?_eq_getElem h];exact List.getElem_mem h
theorem maxL_le {a b:List Int} (hl:a.length=b.length) (h:∀ i,a.getD i 0≤b.getD i 0) (hne:a ≠ []):maxL a≤maxL b:=by
 obtain ⟨i,hi,e⟩:=mem_getD (maxL_mem hne)
 rw [← e]
 exact Int.le_trans (h i) (maxL_ge (getD_mem (by omega)))
theorem getD_append (a b:List Int) (i:Nat):(a ++ b).getD i 0=if i < a.length then a.getD i 0 else b.getD (i - a.length) 0:=by
 simp only[List.getD_eq_getElem?_getD,List.getElem?_append]
 split <;> rfl
theorem lstep_len {js:List Jb} {x:Dr}:∀ i,(lstep js x i).1.length=x.fls.length∧(lstep js x i).2.1.length=x.day.length:=by
 intro i
 induction i with
 | zero=>exact ⟨rfl,rfl⟩
 | succ i ih =>
  simp only[lstep]
  split
  ·exact ih
  ·simp [ih]
structure LLe (S:Sp) (x y:Dr) (job:Nat) (l:Int) (n:Nat):Prop where
 f:∀ g,(lstep S.js x n).1.getD g 0≤(lstep S.js y n).1.getD g 0
 d:∀ k,(lstep S.js x n).2.1.getD k 0≤(lstep S.js y n).2.1.getD k 0
 w:(lstep S.js x n).2.2=(lstep S.js y n).2.2+if job < n then (S.j job).d else 0
 fx:n≤job→(lstep S.js x n).1.getD (S.j job).f.toNat 0=x.fls.getD (S.j job).f.toNat 0
 fy:l+(S.j job).d≤(lstep S.js y n).1.getD (S.j job).f.toNat 0
 dy:l≤(lstep S.js y n).2.1.getD job 0
 w0:0≤(lstep S.js y n).2.2
theorem PAt.lle {S:Sp} (hS:S.Ok) {W:Nat→Nat} {x:Dr} (P:PAt S W x) {job i:Nat} (hj:job < S.js.length) (hi:i < S.ws.length) (hr:readyD S.js x job=true)
  (hl:x.last≤(withD S.js x job i).last):∀ n,n≤S.js.length→LLe S x (withD S.js x job i) job (withD S.js x job i).last n:=by
 obtain ⟨hp,hall⟩:=P.ready hj hr
 obtain ⟨n1,n2,n3⟩:=P.nonneg hS
 have hn7:=hS.n7
 have hm4:=hS.m4
 have hjk:=hS.j hj
 have hf7:(S.j job).f.toNat < 7:=by unfold Jb.Ok at hjk;omega
 have hdj:1≤(S.j job).d:=hjk.2.2.2.2.1
 generalize hle:(withD S.js x job i).last=l at hl
 have hl':max (x.hands.getD i 0) (x.fls.getD (S.j job).f.toNat 0)=l:=hle
 have tb:∀ k,(withD S.js x job i).pl.testBit k=(if k=job then true else x.pl.testBit k):=fun k=>testBit_put _ _ _
 have dy:∀ k,(withD S.js x job i).day.getD k 0=if k=job then l else x.day.getD k 0:=by
  intro k
  have:(withD S.js x job i).day=x.day.set job l:=by rw [← hle];rfl
  rw [this,getD_set _ _ _ _ _ (by rw [P.sz.day];omega)]
 have fd:∀ k,(withD S.js x job i).fls.getD k 0=if k=(S.j job).f.toNat then l+(S.j job).d else x.fls.getD k 0:=by
  intro k
  have:(withD S.js x job i).fls=x.fls.set (S.j job).f.toNat (l+(S.j job).d):=by rw [← hle];rfl
  rw [this,getD_set _ _ _ _ _ (by rw [P.sz.fls];exact hf7)]
 have sz:=P.sz
 have sy:=P.sz.withD hS (w:=i) hj
 have ylast:(withD S.js x job i).last=l:=hle
 generalize hy:withD S.js x job i=y at *
 intro n
 induction n with
 | zero =>
  intro _
  refine ⟨fun g=>?_,fun k=>?_,by simp [lstep],fun _=>rfl,?_,?_,by simp [lstep]⟩
  ·simp only[lstep];rw [fd];split
   ·rename_i e;rw [e];omega
   ·exact Int.le_refl _
  ·simp only[lstep];rw [dy];split
   ·rename_i e;rw [e,P.z job hj hp];have:=n2 i;omega
   ·exact Int.le_refl _
  ·simp only[lstep];rw [fd,if_pos rfl];exact Int.le_refl _
  ·simp only[lstep];rw [dy,if_pos rfl];exact Int.le_refl _
 | succ n ih =>
  intro hn
  obtain ⟨a,b,c,d,e,f,g0⟩:=ih (by omega)
  have hnk:=hS.j (show n < S.js.length by omega)
  have hfn7:(S.j n).f.toNat < 7:=by unfold Jb.Ok at hnk;omega
  have hdn:1≤(S.j n).d:=hnk.2.2.2.2.1
  have lx:=lstep_len (js:=S.js) (x:=x) n
  have ly:=lstep_len (js:=S.js) (x:=y) n
  rw [sz.fls,sz.day] at lx
  rw [sy.fls,sy.day] at ly
  have ty:=tb n
  by_cases ej:n=job
  ·subst ej
   rw [if_pos rfl] at ty
   have ex:lstep S.js x (n+1)=((lstep S.js x n).1.set (S.j n).f.toNat (max x.last ((lstep S.js x n).1.getD (S.j n).f.toNat 0)+(S.j n).d),(lstep S.js x n).2.1.set n (max x.last ((lstep S.js x n).1.getD (S.j n).f.toNat 0)),(lstep S.js x n).2.2+(S.j n).d):=by
    simp only[lstep,hp,Bool.false_eq_true,if_false];rfl
   have ey:lstep S.js y (n+1)=lstep S.js y n:=by simp only[lstep,ty,if_true]
   rw [d (Nat.le_refl _)] at ex
   have hmx:max x.last (x.fls.getD (S.j n).f.toNat 0)≤l:=by omega
   refine ⟨fun g=>?_,fun k=>?_,?_,fun h=>by omega,by rw [ey];exact e,by rw [ey];exact f,by rw [ey];exact g0⟩
   ·rw [ex,ey];dsimp only
    rw [getD_set _ _ _ _ _ (by omega)]
    split
    ·rename_i e1;rw [e1];omega
    ·exact a g
   ·rw [ex,ey];dsimp only
    rw [getD_set _ _ _ _ _ (by omega)]
    split
    ·rename_i e1;rw [e1];omega
    ·exact b k
   ·rw [ex,ey];dsimp only
    rw [if_neg (by omega)] at c
    rw [if_pos (by omega)];omega
  ·rw [if_neg ej] at ty
   cases hb:x.pl.testBit n with
   | true =>
    rw [hb] at ty
    have ex:lstep S.js x (n+1)=lstep S.js x n:=by simp only[lstep,hb,if_true]
    have ey:lstep S.js y (n+1)=lstep S.js y n:=by simp only[lstep,ty,if_true]
    refine ⟨by rw [ex,ey];exact a,by rw [ex,ey];exact b,?_,fun h=>by rw [ex];exact d (by omega),by rw [ey];exact e,by rw [ey];exact f,by rw [ey];exact g0⟩
    rw [ex,ey,c]
    by_cases h1:job < n
    ·rw [if_pos h1,if_pos (by omega)]
    ·rw [if_neg h1,if_neg (by omega)]
   | false =>
    rw [hb] at ty
    have ex:lstep S.js x (n+1)=((lstep S.js x n).1.set (S.j n).f.toNat (max x.last ((lstep S.js x n).1.getD (S.j n).f.toNat 0)+(S.j n).d),(lstep S.js x n).2.1.set n (max x.last ((lstep S.js x n).1.getD (S.j n).f.toNat 0)),(lstep S.js x n).2.2+(S.j n).d):=by
     simp only[lstep,hb,Bool.false_eq_true,if_false];rfl
    have ey:lstep S.js y (n+1)=((lstep S.js y n).1.set (S.j n).f.toNat (max y.last ((lstep S.js y n).1.getD (S.j n).f.toNat 0)+(S.j n).d),(lstep S.js y n).2.1.set n (max y.last ((lstep S.js y n).1.getD (S.j n).f.toNat 0)),(lstep S.js y n).2.2+(S.j n).d):=by
     simp only[lstep,ty,Bool.false_eq_true,if_false];rfl
    have hlast:x.last≤y.last:=by rw [ylast];exact hl
    have hmx:max x.last ((lstep S.js x n).1.getD (S.j n).f.toNat 0)≤max y.last ((lstep S.js y n).1.getD (S.j n).f.toNat 0):=by have:=a (S.j n).f.toNat;omega
    refine ⟨fun g=>?_,fun k=>?_,?_,fun h=>?_,?_,?_,?_⟩
    ·rw [ex,ey];dsimp only
     rw [getD_set _ _ _ _ _ (by omega),getD_set _ _ _ _ _ (by omega)]
     split
     ·omega
     ·exact a g
    ·rw [ex,ey];dsimp only
     rw [getD_set _ _ _ _ _ (by omega),getD_set _ _ _ _ _ (by omega)]
     split
     ·exact hmx
     ·exact b k
    ·rw [ex,ey];dsimp only
     by_cases h1:job < n
     ·rw [if_pos h1] at c;rw [if_pos (by omega)];omega
     ·rw [if_neg h1] at c;rw [if_neg (by omega)];omega
    ·rw [ex];dsimp only
     rw [getD_set _ _ _ _ _ (by omega),if_neg,d (by omega)]
     intro e1
     have h2:(S.j n).f=(S.j job).f:=by
      have h3:=hnk.1;have h4:=hjk.1;omega
     have:=hall n (by omega) h2
     rw [hb] at this;cases this
    ·rw [ey];dsimp only
     rw [getD_set _ _ _ _ _ (by omega)]
     split
     ·rename_i e1;rw [e1] at e;omega
     ·exact e
    ·rw [ey];dsimp only
     rw [getD_set _ _ _ _ _ (by omega),if_neg (fun e1=>ej e1.symm)]
     exact f
    ·rw [ey];dsimp only;omega
def lexLt:List Int→List Int→Bool
 | [],[]=>false
 | [],_ :: _=>true
 | _ :: _,[]=>false
 | a :: l,b :: k=>if a=b then lexLt l k else decide (a < b)
theorem lex_irrefl:∀ a,lexLt a a=false
 | []=>rfl
 | a :: l=>by simp [lexLt,lex_irrefl l]
theorem lex_pw:∀ (a b:List Int),a.length=b.length→(∀ i,a.getD i 0≤b.getD i 0)→lexLt b a=false
 | [],[],_,_=>rfl
 | [],_ :: _,h,_=>by simp at h
 | _ :: _,[],h,_=>by simp at h
 | a :: l,b :: k,h,hp=>by
  simp only[lexLt]
  have h0:a≤b:=by simpa using hp 0
  split
  ·exact lex_pw l k (by simpa using h) (fun i=>by simpa using hp (i+1))
  ·simp;omega
theorem lex_trans:∀ (a b c:List Int),lexLt b a=false→lexLt c b=false→lexLt c a=false
 | [],[],[],_,_=>rfl
 | [],[],_ :: _,_,_=>rfl
 | [],_ :: _,[],h,k=>by simp [lexLt] at h k
 | [],_ :: _,_ :: _,_,_=>rfl
 | _ :: _,[],_,h,_=>by simp [lexLt] at h
 | _ :: _,_ :: _,[],_,k=>by simp [lexLt] at k
 | a :: l,b :: k,c :: m,h,g=>by
  simp only[lexLt] at h g ⊢
  split at h
  ·rename_i e1
   split at g
   ·rename_i e2
    subst e1;subst e2
    rw [if_pos rfl]
    exact lex_trans l k m h g
   ·rename_i e2
    subst e1
    rw [if_neg e2];exact g
  ·rename_i e1
   split at g
   ·rename_i e2
    subst e2
    rw [if_neg e1];exact h
   ·rename_i e2
    simp only[decide_eq_false_iff_not] at h g
    rw [if_neg (by omega)]
    simp;omega
theorem lex_antisymm:∀ (a b:List Int),lexLt b a=false→lexLt a b=false→a=b
 | [],[],_,_=>rfl
 | [],_ :: _,_,h=>by simp [lexLt] at h
 | _ :: _,[],h,_=>by simp [lexLt] at h
 | a :: l,b :: k,h,g=>by
  simp only[lexLt] at h g
  split at h
  ·rename_i e
   subst e
   rw [if_pos rfl] at g
   rw [lex_antisymm l k h g]
  ·rename_i e
   rw [if_neg (fun e2=>e e2.symm)] at g
   simp only[decide_eq_false_iff_not] at h g
   omega
def BE (a b:Int × List Int):Prop:=a.1 < b.1 ∨ a.1=b.1∧lexLt b.2 a.2=false
theorem BE.refl (a:Int × List Int):BE a a:=.inr ⟨rfl,lex_irrefl _⟩
theorem BE.trans {a b c:Int × List Int} (h:BE a b) (k:BE b c):BE a c:=by
 rcases h with h|⟨h,h2⟩ <;> rcases k with k|⟨k,k2⟩
 ·left;omega
 ·left;omega
 ·left;omega
 ·right;exact ⟨by omega,lex_trans _ _ _ h2 k2⟩
theorem freeD_with {S:Sp} {x:Dr} (hl:x.hands.length=4) {job i:Nat} (hi:i < 4):∀ n,freeD (withD S.js x job i) n=freeD x n+if i < n then (withD S.js x job i).last+(S.j job).d - x.hands.getD i 0 else 0:=by
 have hd:∀ k,(withD S.js x job i).hands.getD k 0=if k=i then (withD S.js x job i).last+(S.j job).d else x.hands.getD k 0:=by
  intro k
  have:(withD S.js x job i).hands=x.hands.set i ((withD S.js x job i).last+(S.j job).d):=rfl
  rw [this,getD_set _ _ _ _ _ (by omega)]
 intro n
 induction n with
 | zero=>simp [freeD]
 | succ n ih =>
  simp only[freeD]
  rw [ih,hd]
  by_cases e:n=i
  ·subst e;rw [if_neg (by omega),if_pos rfl,if_pos (by omega)];omega
  ·rw [if_neg e]
   by_cases h:i < n
   ·rw [if_pos h,if_pos (by omega)];omega
   ·rw [if_neg h,if_neg (by omega)];omega
theorem freeD_le {x:Dr} {M:Int} (h:∀ w,x.hands.getD w 0≤M):∀ n:Nat,freeD x n≤n * M:=by
 intro n
 induction n with
 | zero=>simp [freeD]
 | succ n ih =>
  simp only[freeD]
  have:=h n
  have e:((n+1:Nat):Int) * M=n * M+M:=by rw [Int.natCast_succ,Int.add_mul,Int.one_mul]
  omega
theorem freeD_nonneg {x:Dr} (h:∀ w,0≤x.hands.getD w 0):∀ n:Nat,0≤freeD x n:=by
 intro n
 induction n with
 | zero=>simp [freeD]
 | succ n ih=>simp only[freeD];have:=h n;omega
theorem PAt.bound {S:Sp} (hS:S.Ok) {W:Nat→Nat} {x y:Dr} (P:PAt S W x) (h:y ∈ nextD S x):BE (leastD S x) (leastD S y):=by
 obtain ⟨job,i,hj,hi,hs⟩:=mem_nextD.1 h
 obtain ⟨hr,hc,hl,rfl⟩:=nextAt_some hs
 have L:=P.lle hS hj hi hr hl S.js.length (Nat.le_refl _)
 have P2:=P.next hS hj hi hr hc
 obtain ⟨_,n2,n3⟩:=P.nonneg hS
 obtain ⟨_,k2,k3⟩:=P2.nonneg hS
 have hm4:=hS.m4
 have hm0:=hS.m0
 have hdj:1≤(S.j job).d:=(hS.j hj).2.2.2.2.1
 have hfree:=freeD_with (S:=S) P.sz.hands (job:=job) (i:=i) (by omega) S.ws.length
 rw [if_pos hi] at hfree
 have hhi:x.hands.getD i 0≤(withD S.js x job i).last:=by show _≤max _ _;omega
 have hw:=L.w
 rw [if_pos hj] at hw
 have hdays:lexLt (leastD S (withD S.js x job i)).2 (leastD S x).2=false:=by
  refine lex_pw _ _ ?_ L.d
  show (lstep S.js x S.js.length).2.1.length=(lstep S.js (withD S.js x job i) S.js.length).2.1.length
  rw [(lstep_len _).2,(lstep_len _).2,P.sz.day,P2.sz.day]
 have lx:=lstep_len (js:=S.js) (x:=x) S.js.length
 have ly:=lstep_len (js:=S.js) (x:=withD S.js x job i) S.js.length
 rw [P.sz.fls,P.sz.day] at lx
 rw [P2.sz.fls,P2.sz.day] at ly
 have hhand:∀ w,x.hands.getD w 0≤(withD S.js x job i).hands.getD w 0:=by
  intro w
  have:(withD S.js x job i).hands=x.hands.set i ((withD S.js x job i).last+(S.j job).d):=rfl
  rw [this,getD_set _ _ _ _ _ (by rw [P.sz.hands];omega)]
  split
  ·rename_i e;rw [e];omega
  ·exact Int.le_refl _
 have hmax:maxL ((lstep S.js x S.js.length).1 ++ x.hands)≤maxL ((lstep S.js (withD S.js x job i) S.js.length).1 ++ (withD S.js x job i).hands):=by
  refine maxL_le (by simp [lx,ly,P.sz.hands,P2.sz.hands]) (fun k=>?_) (by intro e;have:=congrArg List.length e;simp [P.sz.hands] at this)
  rw [getD_append,getD_append,lx.1,ly.1]
  split
  ·exact L.f k
  ·exact hhand _
 have h1:(leastD S x).1≤(leastD S (withD S.js x job i)).1:=by
  have hM:∀ w,(withD S.js x job i).hands.getD w 0≤maxL ((lstep S.js (withD S.js x job i) S.js.length).1 ++ (withD S.js x job i).hands):=by
   intro w
   by_cases hw4:w < 4
   ·exact maxL_ge (List.mem_append.2 (.inr (getD_mem (by rw [P2.sz.hands];exact hw4))))
   ·rw [List.getD_eq_getElem?_getD,List.getElem?_eq_none (by rw [P2.sz.hands];omega)]
    refine Int.le_trans (k2 0) (maxL_ge (List.mem_append.2 (.inr (getD_mem (by rw [P2.sz.hands];omega)))))
  have hF:=freeD_le hM S.ws.length
  have f0:=freeD_nonneg n2 S.ws.length
  have f1:=freeD_nonneg k2 S.ws.length
  have w0:=L.w0
  simp only[leastD]
  generalize maxL ((lstep S.js x S.js.length).1 ++ x.hands)=a at *
  generalize maxL ((lstep S.js (withD S.js x job i) S.js.length).1 ++ (withD S.js x job i).hands)=b at *
  generalize (lstep S.js x S.js.length).2.2=u at *
  generalize (lstep S.js (withD S.js x job i) S.js.length).2.2=v at *
  generalize freeD x S.ws.length=p at *
  generalize freeD (withD S.js x job i) S.ws.length=q at *
  have hm:(1:Int)≤(S.ws.length:Int):=by omega
  generalize (S.ws.length:Int)=m at *
  rw [if_pos (show 0 < u by omega)]
  rw [Int.tdiv_eq_ediv_of_nonneg (show 0≤p+u+m - 1 by omega)]
  split
  ·rename_i hv
   rw [Int.tdiv_eq_ediv_of_nonneg (show 0≤q+v+m - 1 by omega)]
   have:(p+u+m - 1) / m≤(q+v+m - 1) / m:=Int.ediv_le_ediv (by omega) (by omega)
   omega
  ·rename_i hv
   have:(p+u+m - 1) / m≤b:=by
    have h5:(p+u+m - 1) / m < b+1:=Int.ediv_lt_of_lt_mul (by omega) (by
     have:(b+1) * m=m * b+m:=by rw [Int.add_mul,Int.one_mul,Int.mul_comm]
     omega)
    omega
   omega
 rcases Int.lt_or_le (leastD S x).1 (leastD S (withD S.js x job i)).1 with h2|h2
 ·exact .inl h2
 ·exact .inr ⟨by omega,hdays⟩
theorem PAt.bounds {S:Sp} (hS:S.Ok) {x z:Dr} (h:Rch S x z):∀ {W:Nat→Nat},PAt S W x→BE (leastD S x) (leastD S z):=by
 induction h with
 | refl x=>exact fun _=>BE.refl _
 | step hy _ ih =>
  intro W P
  obtain ⟨W',P'⟩:=P.of_next hS hy
  exact (P.bound hS hy).trans (ih P')
def cutD (S:Sp) (x:Dr) (st:List Int × Int):Bool :=
 decide (0≤st.2) && (decide (st.2 < (leastD S x).1) || decide ((leastD S x).1=st.2) && !lexLt (leastD S x).2 st.1)
def tryD (S:Sp):Nat→Dr→List Int × Int→List Int × Int
 | 0,_,st=>st
 | f+1,x,st =>
  if cutD S x st then st else
  if done S x then (x.day,(leastD S x).1) else
  (nextD S x).foldl (fun st y=>tryD S f y st) st
theorem open_next {S:Sp} {W:Nat→Nat} {x y:Dr} (P:PAt S W x) (h:y ∈ nextD S x):open_ y S.js.length+1=open_ x S.js.length:=by
 obtain ⟨job,i,hj,hi,hs⟩:=mem_nextD.1 h
 obtain ⟨hr,hc,hl,rfl⟩:=nextAt_some hs
 have:=open_with (js:=S.js) (w:=i) (P.ready hj hr).1 S.js.length
 rw [if_pos hj] at this
 exact this
end Go.Proofs.YtaijkalhkgjakaaGreatDoor
