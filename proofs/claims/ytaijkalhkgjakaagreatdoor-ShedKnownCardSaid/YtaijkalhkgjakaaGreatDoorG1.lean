/- The first workers for the days of a plan; the best plan of a shop, and that it is the best one. -/
import Derived.Test.YtaijkalhkgjakaaGreatDoorP4
import Derived.Test.YtaijkalhkgjakaaGreatDoorP1
set_option linter.all false
set_option linter.unusedSimpArgs false
set_option linter.unusedVariables false
namespace Go.Proofs.YtaijkalhkgjakaaGreatDoor
open Go.Av
def pAt (p:List Sf) (i:Nat):Sf:=p.getD i ⟨0,0⟩
structure VP (S:Sp) (p:List Sf):Prop where
 len:p.length=S.js.length
 w:∀ i,i < S.js.length→0≤(pAt p i).w∧(pAt p i).w < S.ws.length∧(S.wk (pAt p i).w.toNat).can (S.j i).s=true∧0≤(pAt p i).d∧(pAt p i).d≤400
 ord:∀ k i,k < i→i < S.js.length→(S.j k).f=(S.j i).f→(pAt p k).d+(S.j k).d≤(pAt p i).d
 clash:∀ k i,k < i→i < S.js.length→(pAt p k).w=(pAt p i).w→(pAt p k).d+(S.j k).d≤(pAt p i).d ∨ (pAt p i).d+(S.j i).d≤(pAt p k).d
theorem VP.val {S:Sp} (hS:S.Ok) {p:List Sf} (h:VP S p):S.sch.Val (fun i=>(pAt p i).w.toNat) (fun i=>(pAt p i).d):=by
 refine ⟨fun i hi=>?_,fun k i hki hi hf=>?_,fun k i hki hi hw=>?_⟩
 ·obtain ⟨a,b,c,d,_⟩:=h.w i hi
  refine ⟨?_,c,d⟩
  show (pAt p i).w.toNat < S.ws.length
  omega
 ·have hf':(S.j k).f.toNat=(S.j i).f.toNat:=hf
  have h1:=(hS.j (show i < S.js.length from hi)).1
  have h2:=(hS.j (Nat.lt_trans hki (show i < S.js.length from hi))).1
  exact h.ord k i hki hi (by omega)
 ·have hw':(pAt p k).w.toNat=(pAt p i).w.toNat:=hw
  have h1:=(h.w i hi).1
  have h2:=(h.w k (Nat.lt_trans hki hi)).1
  exact h.clash k i hki hi (by omega)
def takesTo (js:List Jb) (p:List Sf):Nat→Int
 | 0=>0
 | i+1=>max (takesTo js p i) ((pAt p i).d+(jOf js i).d)
def takesP (S:Sp) (p:List Sf):Int:=takesTo S.js p S.js.length
theorem takesTo_ge {js:List Jb} {p:List Sf}:∀ {n i:Nat},i < n→(pAt p i).d+(jOf js i).d≤takesTo js p n:=by
 intro n
 induction n with
 | zero=>intro i h;omega
 | succ n ih =>
  intro i h
  simp only[takesTo]
  by_cases e:i=n
  ·subst e;omega
  ·have:=ih (i:=i) (by omega);omega
theorem takesTo_nonneg {js:List Jb} {p:List Sf}:∀ n,0≤takesTo js p n:=by
 intro n
 induction n with
 | zero=>exact Int.le_refl _
 | succ n ih=>simp only[takesTo];omega
theorem takesTo_cases {js:List Jb} {p:List Sf}:∀ n,takesTo js p n=0 ∨ ∃ i,i < n∧takesTo js p n=(pAt p i).d+(jOf js i).d:=by
 intro n
 induction n with
 | zero=>exact .inl rfl
 | succ n ih =>
  simp only[takesTo]
  rcases Int.le_total (takesTo js p n) ((pAt p n).d+(jOf js n).d) with h|h
  ·right;exact ⟨n,by omega,Int.max_eq_right h⟩
  ·rw [Int.max_eq_left h]
   rcases ih with e|⟨i,hi,e⟩
   ·exact .inl e
   ·exact .inr ⟨i,by omega,e⟩
def clashD (js:List Jb) (p:List Sf) (day:Int) (i:Nat):Bool :=
 (List.range p.length).any fun k=>decide ((pAt p k).w=i) && decide (day < (pAt p k).d+(jOf js k).d) && decide ((pAt p k).d < day+(jOf js p.length).d)
def staffAt (S:Sp) (days:List Int) (p:List Sf) (i:Nat):Bool:=(S.wk i).can (S.j p.length).s && !clashD S.js p (days.getD p.length 0) i
def staffD (S:Sp) (days:List Int):Nat→List Sf→Option (List Sf)
 | 0,_=>none
 | f+1,p=>if p.length=S.js.length then some p else
   (List.range S.ws.length).findSome? fun i=>if staffAt S days p i then staffD S days f (p ++ [⟨i,days.getD p.length 0⟩]) else none
structure Stf (S:Sp) (days:List Int) (p:List Sf) (n:Nat):Prop where
 w:∀ i,i < n→0≤(pAt p i).w∧(pAt p i).w < S.ws.length∧(S.wk (pAt p i).w.toNat).can (S.j i).s=true∧(pAt p i).d=days.getD i 0
 clash:∀ k i,k < i→i < n→(pAt p k).w=(pAt p i).w→(pAt p k).d+(S.j k).d≤(pAt p i).d ∨ (pAt p i).d+(S.j i).d≤(pAt p k).d
theorem pAt_append {p:List Sf} {x:Sf} {k:Nat} (h:k < p.length):pAt (p ++ [x]) k=pAt p k:=by
 simp only[pAt,List.getD_eq_getElem?_getD,List.getElem?_append_left h]
theorem pAt_last {p:List Sf} {x:Sf}:pAt (p ++ [x]) p.length=x:=by
 simp [pAt,List.getD_eq_getElem?_getD]
theorem Stf.snoc {S:Sp} {days:List Int} {p:List Sf} (h:Stf S days p p.length) {i:Nat} (hi:i < S.ws.length) (ha:staffAt S days p i=true):Stf S days (p ++ [⟨i,days.getD p.length 0⟩]) (p.length+1):=by
 simp only[staffAt,Bool.and_eq_true,Bool.not_eq_true',clashD,List.any_eq_false,List.mem_range,Bool.and_eq_true,decide_eq_true_eq] at ha
 obtain ⟨h1,h2⟩:=ha
 refine ⟨fun k hk=>?_,fun k j hkj hj hw=>?_⟩
 ·by_cases e:k=p.length
  ·subst e
   rw [pAt_last]
   exact ⟨by simp,by simpa using hi,by simpa using h1,rfl⟩
  ·rw [pAt_append (by omega)];exact h.w k (by omega)
 ·by_cases e:j=p.length
  ·subst e
   rw [pAt_append (by omega)] at hw ⊢
   rw [pAt_last] at hw ⊢
   have:=h2 k (by omega)
   have e1:(S.j p.length).d=(jOf S.js p.length).d:=rfl
   have e2:(S.j k).d=(jOf S.js k).d:=rfl
   dsimp only at hw ⊢
   rw [e1,e2]
   apply Classical.byContradiction
   intro hc
   exact this ⟨⟨hw,by omega⟩,by omega⟩
  ·rw [pAt_append (by omega),pAt_append (by omega)] at *
   exact h.clash k j hkj (by omega) hw
theorem Stf.at_ {S:Sp} {days:List Int} {q:List Sf} {n:Nat} (h:Stf S days q n) {p:List Sf} (hp:∀ k,k < p.length→pAt p k=pAt q k) (hn:p.length < n):staffAt S days p (pAt q p.length).w.toNat=true:=by
 obtain ⟨a,b,c,d⟩:=h.w p.length hn
 simp only[staffAt,Bool.and_eq_true,Bool.not_eq_true',clashD,List.any_eq_false,List.mem_range,Bool.and_eq_true,decide_eq_true_eq]
 refine ⟨c,fun k hk=>?_⟩
 rintro ⟨⟨h1,h2⟩,h3⟩
 rw [hp k hk] at h1 h2 h3
 have:=h.clash k p.length hk hn (by omega)
 rw [d] at this
 have e1:(S.j p.length).d=(jOf S.js p.length).d:=rfl
 have e2:(S.j k).d=(jOf S.js k).d:=rfl
 omega
def dsP (p:List Sf):List Int:=p.map Sf.d
def wsP (p:List Sf):List Int:=p.map Sf.w
def bef (a b:List Sf):Bool:=if dsP a=dsP b then lexLt (wsP a) (wsP b) else lexLt (dsP a) (dsP b)
structure BestOk (S:Sp) (p:List Sf) (t:Int):Prop where
 vp:VP S p
 takes:t=takesP S p
 best:∀ q,VP S q→t < takesP S q ∨ t=takesP S q∧bef q p=false
def Manned (S:Sp):Prop:=∀ i,i < S.js.length→∃ w,w < S.ws.length∧(S.wk w).can (S.j i).s=true
def seqT (S:Sp):Nat→Int
 | 0=>0
 | i+1=>seqT S i+(S.j i).d
theorem seqT_mono {S:Sp} (hS:S.Ok) {i:Nat}:∀ {k:Nat},k≤S.js.length→i < k→seqT S i+(S.j i).d≤seqT S k:=by
 intro k
 induction k with
 | zero=>intro _ h;omega
 | succ k ih =>
  intro hk h
  simp only[seqT]
  by_cases e:i=k
  ·subst e;omega
  ·have:=ih (by omega) (by omega)
   have:=hS.d k (show k < S.js.length by omega)
   have e2:S.sch.d k=(S.j k).d:=rfl
   omega
theorem seqT_nonneg {S:Sp} (hS:S.Ok):∀ {k:Nat},k≤S.js.length→0≤seqT S k:=by
 intro k
 induction k with
 | zero=>intro _;exact Int.le_refl _
 | succ k ih =>
  intro hk
  simp only[seqT]
  have:=ih (by omega)
  have:=hS.d k (show k < S.js.length by omega)
  have e2:S.sch.d k=(S.j k).d:=rfl
  omega
theorem Manned.val {S:Sp} (hS:S.Ok) (h:Manned S):∃ W T,S.sch.Val W T:=by
 classical
 have hM:∀ i,i < S.js.length→∃ w,w < S.ws.length∧(S.wk w).can (S.j i).s=true:=h
 let W:Nat→Nat:=fun i=>if hi:i < S.js.length then (hM i hi).choose else 0
 have hW:∀ i,i < S.js.length→W i < S.ws.length∧(S.wk (W i)).can (S.j i).s=true:=by
  intro i hi
  simp only[W,dif_pos hi]
  exact (hM i hi).choose_spec
 exact ⟨W,seqT S,fun i hi=>⟨(hW i hi).1,(hW i hi).2,seqT_nonneg hS (Nat.le_of_lt hi)⟩,fun k i hki hi _=>seqT_mono hS (Nat.le_of_lt hi) hki,fun k i hki hi _=>.inl (seqT_mono hS (Nat.le_of_lt hi) hki)⟩
structure Low (S:Sp) (x:Dr):Prop where
 h:∀ w,x.hands.getD w 0+30 * open_ x S.js.length≤30 * S.js.length
 f:∀ g,x.fls.getD g 0+30 * open_ x S.js.length≤30 * S.js.length
theorem Low.next {S:Sp} (hS:S.Ok) {W:Nat→Nat} {x:Dr} (P:PAt S W x) (L:Low S x) {job i:Nat} (hj:job < S.js.length) (hi:i < S.ws.length) (hp:x.pl.testBit job=false):Low S (withD S.js x job i):=by
 have h1:=open_with (js:=S.js) (w:=i) hp S.js.length
 rw [if_pos hj] at h1
 have hm4:=hS.m4
 have hjk:=hS.j hj
 have hf7:(S.j job).f.toNat < 7:=by unfold Jb.Ok at hjk;omega
 have hd30:(S.j job).d≤30:=hjk.2.2.2.2.2
 have hl:(withD S.js x job i).last=max (x.hands.getD i 0) (x.fls.getD (S.j job).f.toNat 0):=rfl
 have a:=L.h i
 have b:=L.f (S.j job).f.toNat
 refine ⟨fun w=>?_,fun g=>?_⟩
 ·have:(withD S.js x job i).hands=x.hands.set i ((withD S.js x job i).last+(S.j job).d):=rfl
  rw [this,getD_set _ _ _ _ _ (by rw [P.sz.hands];omega),hl]
  have:=L.h w
  split <;> omega
 ·have:(withD S.js x job i).fls=x.fls.set (S.j job).f.toNat ((withD S.js x job i).last+(S.j job).d):=rfl
  rw [this,getD_set _ _ _ _ _ (by rw [P.sz.fls];omega),hl]
  have:=L.f g
  split <;> omega
theorem open_dr0:∀ n,open_ dr0 n=n:=by
 intro n
 induction n with
 | zero=>rfl
 | succ n ih =>
  have e:dr0.pl.testBit n=false:=by simp [dr0]
  simp only[open_,ih,e,Bool.false_eq_true,if_false]
theorem Low.start (S:Sp):Low S dr0:=by
 have h:=open_dr0 S.js.length
 refine ⟨fun w=>?_,fun w=>?_⟩
 ·rw [h,show dr0.hands=List.replicate 4 0 from rfl,getD_rep];omega
 ·rw [h,show dr0.fls=List.replicate 7 0 from rfl,getD_rep];omega
def planOf (W:Nat→Nat) (x:Dr) (n:Nat):List Sf:=(List.range n).map fun i=>⟨W i,x.day.getD i 0⟩
theorem pAt_planOf {W:Nat→Nat} {x:Dr} {n i:Nat} (h:i < n):pAt (planOf W x n) i=⟨W i,x.day.getD i 0⟩:=by
 simp [pAt,planOf,List.getD_eq_getElem?_getD,h]
theorem PAt.d400 {S:Sp} (hS:S.Ok) {W:Nat→Nat} {x:Dr} (P:PAt S W x) (L:Low S x) {i:Nat} (hi:i < S.js.length) (hb:x.pl.testBit i=true):x.day.getD i 0≤400:=by
 have h1:=P.h1 i hi hb
 have h2:=L.h (W i)
 have h3:=hS.n7
 have h4:=hS.d i hi
 have e2:S.sch.d i=(S.j i).d:=rfl
 omega
theorem PAt.vp {S:Sp} (hS:S.Ok) {W:Nat→Nat} {x:Dr} (P:PAt S W x) (L:Low S x) (hd:done S x=true):VP S (planOf W x S.js.length):=by
 have hall:=(done_iff P.sz).1 hd
 refine ⟨by simp [planOf],fun i hi=>?_,fun k i hki hi hf=>?_,fun k i hki hi hw=>?_⟩
 ·rw [pAt_planOf hi]
  obtain ⟨a,b,c⟩:=P.v i hi (hall i hi)
  exact ⟨by simp,by simpa using a,by simpa using b,c,P.d400 hS L hi (hall i hi)⟩
 ·rw [pAt_planOf hi,pAt_planOf (Nat.lt_trans hki hi)]
  exact (P.ord k i hki hi (hall i hi) hf).2
 ·rw [pAt_planOf hi,pAt_planOf (Nat.lt_trans hki hi)] at *
  exact P.clash k i hki hi (hall k (Nat.lt_trans hki hi)) (hall i hi) (by dsimp only at hw;omega)
theorem PAt.takes {S:Sp} (hS:S.Ok) {W:Nat→Nat} {x:Dr} (P:PAt S W x) (hd:done S x=true) {p:List Sf} (hp:∀ i,i < S.js.length→(pAt p i).d=x.day.getD i 0):takesP S p=maxL (x.fls ++ x.hands):=by
 have hall:=(done_iff P.sz).1 hd
 have hm4:=hS.m4
 apply Int.le_antisymm
 ·rcases takesTo_cases (js:=S.js) (p:=p) S.js.length with e|⟨i,hi,e⟩
  ·unfold takesP;rw [e]
   exact Int.le_trans ((P.nonneg hS).2.1 0) (maxL_ge (List.mem_append.2 (.inr (getD_mem (by rw [P.sz.hands];omega)))))
  ·unfold takesP;rw [e,hp i hi]
   have h1:=P.h1 i hi (hall i hi)
   have h2:=(P.v i hi (hall i hi)).1
   exact Int.le_trans h1 (maxL_ge (List.mem_append.2 (.inr (getD_mem (by rw [P.sz.hands];omega)))))
 ·have hne:x.fls ++ x.hands ≠ []:=by intro e;have:=congrArg List.length e;simp [P.sz.hands] at this
  have hk:∀ k,k < S.js.length→x.day.getD k 0+(S.j k).d≤takesP S p:=fun k hk=>by rw [← hp k hk];exact takesTo_ge hk
  have h0:0≤takesP S p:=takesTo_nonneg _
  rcases List.mem_append.1 (maxL_mem hne) with h|h
  ·obtain ⟨g,_,e⟩:=mem_getD h
   rw [← e]
   rcases P.f2 g with e2|⟨k,hk1,_,_,e2⟩
   ·omega
   ·rw [← e2];exact hk k hk1
  ·obtain ⟨g,_,e⟩:=mem_getD h
   rw [← e]
   rcases P.h2 g with e2|⟨k,hk1,_,_,e2⟩
   ·omega
   ·rw [← e2];exact hk k hk1
def bestD (S:Sp):List Sf × Int :=
 let r:=tryD S (S.js.length+1) dr0 (List.replicate 7 0,-1)
 ((staffD S r.1 (S.js.length+1) []).getD [],r.2)
structure Rf where
 plan:List Sf
 dn:List Bool
 hands:List Int
 ready:List Int
def withR (js:List Jb) (x:Rf) (job w:Nat):Rf :=
 let j:=jOf js job
 let day:=max (x.hands.getD w 0) (x.ready.getD j.f.toNat 0)
 { plan:=x.plan.set job ⟨w,day⟩,dn:=x.dn.set job true,hands:=x.hands.set w (day+j.d),ready:=x.ready.set j.f.toNat (day+j.d) }
def nextR (js:List Jb) (x:Rf) (job:Nat):Bool :=
 (List.range job).all (fun i=>!(decide ((jOf js i).f=(jOf js job).f) && !x.dn.getD i false)) && !x.dn.getD job false
def rf0 (S:Sp):Rf:=⟨List.replicate S.js.length ⟨0,0⟩,List.replicate S.js.length false,List.replicate S.ws.length 0,List.replicate 7 0⟩
structure RR (S:Sp) (W:Nat→Nat) (D:Dr) (x:Rf):Prop where
 pl:x.plan.length=S.js.length
 p:∀ i,i < S.js.length→D.pl.testBit i=true→pAt x.plan i=⟨W i,D.day.getD i 0⟩
 dl:x.dn.length=S.js.length
 d:∀ i,i < S.js.length→x.dn.getD i false=D.pl.testBit i
 hl:x.hands.length=S.ws.length
 h:∀ w,w < S.ws.length→x.hands.getD w 0=D.hands.getD w 0
 r:x.ready=D.fls
theorem RR.next {S:Sp} (hS:S.Ok) {W:Nat→Nat} {D:Dr} {x:Rf} (R:RR S W D x) (z:D.Sz S) {job w:Nat} (hj:job < S.js.length) (hw:w < S.ws.length) {W':Nat→Nat} (hW:∀ i,D.pl.testBit i=true→i ≠ job→W' i=W i) (hW':W' job=w) :
  RR S W' (withD S.js D job w) (withR S.js x job w):=by
 have hn7:=hS.n7
 have hm4:=hS.m4
 have e:max (x.hands.getD w 0) (x.ready.getD (jOf S.js job).f.toNat 0)=max (D.hands.getD w 0) (D.fls.getD (jOf S.js job).f.toNat 0):=by rw [R.h w hw,R.r]
 have tb:∀ k,(withD S.js D job w).pl.testBit k=(if k=job then true else D.pl.testBit k):=fun k=>testBit_put _ _ _
 refine ⟨by simp [withR,R.pl],fun i hi hb=>?_,by simp [withR,R.dl],fun i hi=>?_,by simp [withR,R.hl],fun u hu=>?_,?_⟩
 ·rw [tb] at hb
  simp only[pAt,withR,withD]
  rw [getD_set _ _ _ _ _ (by rw [R.pl];exact hj),getD_set _ _ _ _ _ (by rw [z.day];omega)]
  split
  ·rename_i h;subst h;rw [hW',e]
  ·rename_i h
   rw [if_neg h] at hb
   rw [hW i hb h]
   exact R.p i hi hb
 ·rw [tb]
  simp only[withR]
  rw [getD_set _ _ _ _ _ (by rw [R.dl];exact hj)]
  split
  ·rfl
  ·exact R.d i hi
 ·simp only[withR,withD]
  rw [getD_set _ _ _ _ _ (by rw [R.hl];exact hw),getD_set _ _ _ _ _ (by rw [z.hands];omega),e]
  split
  ·rfl
  ·exact R.h u hu
 ·simp only[withR,withD]
  rw [e,R.r]
theorem RR.ready {S:Sp} {W:Nat→Nat} {D:Dr} {x:Rf} (R:RR S W D x) {job:Nat} (hj:job < S.js.length):nextR S.js x job=true ↔ D.pl.testBit job=false∧∀ k,k < job→(S.j k).f=(S.j job).f→D.pl.testBit k=true:=by
 simp only[nextR,Bool.and_eq_true,List.all_eq_true,List.mem_range,Bool.not_eq_true',Bool.and_eq_false_iff,decide_eq_false_iff_not,Bool.not_eq_false']
 rw [R.d job hj]
 constructor
 ·rintro ⟨a,b⟩
  refine ⟨b,fun k hk hf=>?_⟩
  rcases a k hk with h|h
  ·exact absurd hf h
  ·rw [← R.d k (by omega)];exact h
 ·rintro ⟨a,b⟩
  refine ⟨fun k hk=>?_,a⟩
  by_cases hf:(jOf S.js k).f=(jOf S.js job).f
  ·right;rw [R.d k (by omega)];exact b k hk hf
  ·exact .inl hf
def OL (S:Sp) (p q:List Sf):Prop:=takesP S p < takesP S q ∨ takesP S p=takesP S q∧bef q p=false
theorem bef_irrefl (p:List Sf):bef p p=false:=by simp [bef,lex_irrefl]
theorem bef_ds {p q:List Sf} (h:bef q p=false):lexLt (dsP q) (dsP p)=false:=by
 unfold bef at h
 split at h
 ·rename_i e;rw [e];exact lex_irrefl _
 ·exact h
theorem bef_trans {p q r:List Sf} (h:bef q p=false) (k:bef r q=false):bef r p=false:=by
 have h1:=bef_ds h
 have k1:=bef_ds k
 have hk:=lex_trans _ _ _ h1 k1
 by_cases e:dsP r=dsP p
 ·rw [e] at k1
  have e2:=lex_antisymm _ _ k1 h1
  unfold bef at *
  rw [if_pos e]
  rw [if_pos e2] at h
  rw [if_pos (e.trans e2.symm)] at k
  exact lex_trans _ _ _ h k
 ·unfold bef;rw [if_neg e];exact hk
theorem OL.refl {S:Sp} (p:List Sf):OL S p p:=.inr ⟨rfl,bef_irrefl p⟩
theorem OL.trans {S:Sp} {p q r:List Sf} (h:OL S p q) (k:OL S q r):OL S p r:=by
 rcases h with h|⟨h,h2⟩ <;> rcases k with k|⟨k,k2⟩
 ·left;omega
 ·left;omega
 ·left;omega
 ·exact .inr ⟨h.trans k,bef_trans h2 k2⟩
theorem getD_repB (n k:Nat):(List.replicate n false).getD k false=false:=by
 rw [List.getD_eq_getElem?_getD,List.getElem?_replicate];split <;> rfl
theorem RR.start (S:Sp) (W:Nat→Nat):RR S W dr0 (rf0 S):=by
 refine ⟨by simp [rf0],fun i _ h=>by simp [dr0] at h,by simp [rf0],fun i hi=>?_,by simp [rf0],fun w hw=>?_,rfl⟩
 ·show (List.replicate _ false).getD i false=_
  rw [getD_repB];simp [dr0]
 ·show (List.replicate _ (0:Int)).getD w 0=(List.replicate 4 (0:Int)).getD w 0
  rw [getD_rep,getD_rep]
def fsum (js:List Jb) (f:Int):Nat→Int
 | 0=>0
 | i+1=>fsum js f i+if (jOf js i).f=f then (jOf js i).d else 0
def inSet (s:Int) (set:Nat):Bool:=set.testBit (s - 1).toNat
def Wk.has (w:Wk) (set:Nat):Bool:=(w.a && set.testBit 0) || (w.b && set.testBit 1) || (w.c && set.testBit 2)
def wsum (js:List Jb) (set:Nat):Nat→Int
 | 0=>0
 | i+1=>wsum js set i+if inSet (jOf js i).s set then (jOf js i).d else 0
def wOf (ws:List Wk) (i:Nat):Wk:=ws.getD i ⟨false,false,false⟩
def hcnt (ws:List Wk) (set:Nat):Nat→Int
 | 0=>0
 | i+1=>hcnt ws set i+if (wOf ws i).has set then 1 else 0
def ceilD (n m:Int):Int:=(n+m - 1).tdiv m
def bndD (S:Sp) (b:Int):Nat→Int
 | 0=>b
 | k+1=>if 0 < wsum S.js k S.js.length then max (bndD S b k) (ceilD (wsum S.js k S.js.length) (hcnt S.ws k S.ws.length)) else bndD S b k
def boundD (S:Sp):Int:=bndD S (maxL ((List.range 7).map fun f=>fsum S.js (f:Nat) S.js.length)) 8
def skBit (s:Int):Nat:=2 ^ (s - 1).toNat
def lackD (S:Sp):Bool:=(List.range S.js.length).any fun i=>decide (hcnt S.ws (skBit (S.j i).s) S.ws.length=0)
theorem hcnt_nonneg (ws:List Wk) (set:Nat):∀ n,0≤hcnt ws set n∧hcnt ws set n≤n:=by
 intro n
 induction n with
 | zero=>simp [hcnt]
 | succ n ih=>simp only[hcnt];split <;> omega
theorem hcnt_pos {ws:List Wk} {set:Nat} {w:Nat}:∀ {n},w < n→(wOf ws w).has set=true→1≤hcnt ws set n:=by
 intro n
 induction n with
 | zero=>intro h;omega
 | succ n ih =>
  intro h hw
  simp only[hcnt]
  have:=hcnt_nonneg ws set n
  by_cases e:w=n
  ·subst e;rw [if_pos hw];omega
  ·have:=ih (by omega) hw
   split <;> omega
theorem hcnt_zero {ws:List Wk} {set:Nat}:∀ {n},hcnt ws set n ≠ 0→∃ w,w < n∧(wOf ws w).has set=true:=by
 intro n
 induction n with
 | zero=>intro h;exact absurd rfl h
 | succ n ih =>
  intro h
  simp only[hcnt] at h
  by_cases hw:(wOf ws n).has set=true
  ·exact ⟨n,by omega,hw⟩
  ·rw [if_neg hw] at h
   obtain ⟨w,a,b⟩:=ih (by omega)
   exact ⟨w,by omega,b⟩
theorem has_can (w:Wk) {s:Int} (h:1≤s∧s≤3):w.has (skBit s)=w.can s:=by
 have:s=1 ∨ s=2 ∨ s=3:=by omega
 rcases this with rfl|rfl|rfl <;> cases w with|mk a b c=>cases a <;> cases b <;> cases c <;> rfl
theorem lack_iff {S:Sp} (hS:S.Ok):lackD S=false ↔ Manned S:=by
 unfold lackD
 simp only[List.any_eq_false,List.mem_range,decide_eq_true_eq]
 constructor
 ·intro h i hi
  obtain ⟨w,a,b⟩:=hcnt_zero (h i hi)
  refine ⟨w,a,?_⟩
  have hj:=hS.j hi
  rw [has_can _ ⟨hj.2.2.1,hj.2.2.2.1⟩] at b
  exact b
 ·intro h i hi e
  obtain ⟨w,a,b⟩:=h i hi
  have hj:=hS.j hi
  have:=hcnt_pos (ws:=S.ws) (set:=skBit (S.j i).s) a (by rw [has_can _ ⟨hj.2.2.1,hj.2.2.2.1⟩];exact b)
  omega
theorem inSet_has {w:Wk} {s:Int} {set:Nat} (hs:1≤s∧s≤3) (h:inSet s set=true) (hc:w.can s=true):w.has set=true:=by
 have:s=1 ∨ s=2 ∨ s=3:=by omega
 rcases this with rfl|rfl|rfl <;> simp_all [inSet,Wk.has,Wk.can]
theorem wsum_nonneg {S:Sp} (hS:S.Ok) (set:Nat):∀ n,n≤S.js.length→0≤wsum S.js set n∧wsum S.js set n≤30 * n:=by
 intro n
 induction n with
 | zero=>intro _;simp [wsum]
 | succ n ih =>
  intro hn
  have:=ih (by omega)
  have hj:=hS.j (show n < S.js.length by omega)
  have e:S.j n=jOf S.js n:=rfl
  rw [e] at hj
  unfold Jb.Ok at hj
  simp only[wsum]
  split <;> omega
theorem fsum_nonneg {S:Sp} (hS:S.Ok) (f:Int):∀ n,n≤S.js.length→0≤fsum S.js f n∧fsum S.js f n≤30 * n:=by
 intro n
 induction n with
 | zero=>intro _;simp [fsum]
 | succ n ih =>
  intro hn
  have:=ih (by omega)
  have hj:=hS.j (show n < S.js.length by omega)
  have e:S.j n=jOf S.js n:=rfl
  rw [e] at hj
  unfold Jb.Ok at hj
  simp only[fsum]
  split <;> omega
theorem wsum_pos {js:List Jb} {set:Nat}:∀ {n},0 < wsum js set n→∃ i,i < n∧inSet (jOf js i).s set=true:=by
 intro n
 induction n with
 | zero=>intro h;simp [wsum] at h
 | succ n ih =>
  intro h
  simp only[wsum] at h
  by_cases hs:inSet (jOf js n).s set=true
  ·exact ⟨n,by omega,hs⟩
  ·rw [if_neg hs] at h
   obtain ⟨i,a,b⟩:=ih (by omega)
   exact ⟨i,by omega,b⟩
theorem Manned.hands {S:Sp} (hS:S.Ok) (hM:Manned S) {set:Nat} (h:0 < wsum S.js set S.js.length):1≤hcnt S.ws set S.ws.length:=by
 obtain ⟨i,hi,hs⟩:=wsum_pos h
 obtain ⟨w,a,b⟩:=hM i hi
 have hj:=hS.j hi
 exact hcnt_pos a (inSet_has ⟨hj.2.2.1,hj.2.2.2.1⟩ hs b)
end Go.Proofs.YtaijkalhkgjakaaGreatDoor

namespace Go.Proofs.YtaijkalhkgjakaaGreatDoor
open Go.Av
attribute [local irreducible] thenA blockA awp awpOps awpD awp1
attribute [local go_sem_proc] Nat.reduceAdd Nat.reduceMul Nat.reduceEqDiff Nat.reduceBEq Nat.reduceLeDiff
attribute [local go_sem_proc ↓] reduceIte
attribute [local go_sem] if_yes if_no
set_option maxHeartbeats 8000000
set_option maxRecDepth 20000
def Wk.row (x:Wk):List AV:=[.bool x.a,.bool x.b,.bool x.c]
@[go_sem] theorem Wk.row_eq (x:Wk):x.row=[.bool x.a,.bool x.b,.bool x.c]:=rfl
def Jb.row (x:Jb):List AV:=[.int .i64 x.f,.int .i64 x.s,.int .i64 x.d]
@[go_sem] theorem Jb.row_eq (x:Jb):x.row=[.int .i64 x.f,.int .i64 x.s,.int .i64 x.d]:=rfl
def Sf.row (x:Sf):List AV:=[.int .i64 x.w,.int .i64 x.d]
@[go_sem] theorem Sf.row_eq (x:Sf):x.row=[.int .i64 x.w,.int .i64 x.d]:=rfl
def Sp.av (S:Sp):AV:=.agg [.lst 3 (S.ws.map Wk.row),.lst 3 (S.js.map Jb.row)]
@[go_sem] theorem Sp.av_eq (S:Sp):S.av=.agg [.lst 3 (S.ws.map Wk.row),.lst 3 (S.js.map Jb.row)]:=rfl
@[go_sem] theorem wrow_getD {l:List Wk} {i:Nat} (h:i < l.length):(l.map Wk.row).getD i []=(wOf l i).row:=by
 simp [List.getD_eq_getElem?_getD,h,wOf]
@[go_sem] theorem jrow_getD {l:List Jb} {i:Nat} (h:i < l.length):(l.map Jb.row).getD i []=(jOf l i).row:=by
 simp [List.getD_eq_getElem?_getD,h,jOf]
@[go_sem] theorem srow_getD {l:List Sf} {i:Nat} (h:i < l.length):(l.map Sf.row).getD i []=(pAt l i).row:=by
 simp [List.getD_eq_getElem?_getD,h,pAt]
theorem c66 (lo hi:Int) (es:List Int) (hl:(es.length:Int) < 1000000):Pure Tryz.prog 66 [.int .i64 lo,.int .i64 hi,.lst 1 (es.map iv)] (fun v=>v=.bool (allIn lo hi es)):=by
 intro h
 refine ACalls.forget (ACalls.of tab mixed Tryz.call66 Tryz.func66 rfl (fi:=⟨24,[],[],none,[]⟩) rfl rfl (Nat.le_of_ble_eq_true rfl) (by decide) ?_)
 unfold startA
 repeat' (first|refine st_seq_reg rfl (by first|(simp only[go_sem];rfl)|rfl) (by first|(simp only[go_sem];rfl)|rfl) ?_|refine st_op ?_|refine st_det rfl (by simp (disch:=omega) only[go_sem,wr_i64];rfl) ?_|refine st_nil ?_|refine st_seq ?_|refine st_block ?_)
 refine st_loopC (α:=Nat) tab mixed [] [] (by repeat (first|exact trivial|refine ⟨rfl,?_⟩)) [] [] (by repeat (first|exact trivial|refine ⟨rfl,?_⟩)) (fun i=>[(11,.int .i64 i)]) [(0,_),(1,_),(6,_),(9,_),(10,_)] (fun _=>[]) [] (fun i=>i≤es.length∧allIn lo hi (es.drop i)=allIn lo hi es) (fun i=>es.length - i) (by decide) 0 ⟨by omega,rfl⟩ (by (try simp only[go_sem]);repeat' (first|exact trivial|refine And.intro ?_ ?_|rfl|(simp (disch:=omega) only[go_sem,if_yes,if_no,if_no];rfl)|(simp (disch:=omega) only[go_sem,if_yes,if_no,if_no]))) (by (try simp only[go_sem]);repeat' (first|exact trivial|refine And.intro ?_ ?_|rfl|(simp (disch:=omega) only[go_sem,if_yes,if_no,if_no];rfl)|(simp (disch:=omega) only[go_sem,if_yes,if_no,if_no]))) (by first|(simp only[go_sem];rfl)|rfl) (by intro n;simp only[go_sem];rfl) ?_
 rintro i c ⟨hi',hall⟩ hc
 simp only[go_sem]
 repeat' (first|refine st_seq_reg rfl (by first|(simp only[go_sem];rfl)|rfl) (by first|(simp only[go_sem];rfl)|rfl) ?_|refine st_reg rfl (by first|(simp only[go_sem];rfl)|rfl) (by first|(simp only[go_sem];rfl)|rfl) ?_|refine st_op ?_|refine st_det rfl (by simp (disch:=omega) only[go_sem,wr_i64];rfl) ?_|refine st_gT rfl rfl rfl ?_|refine st_gF rfl rfl rfl ?_|(refine st_gS rfl rfl ?_ ?_ <;> intro hg <;> (try simp only[dcT,dcF,bnT,bnF] at hg))|refine st_condT rfl ?_|(refine st_condS rfl ?_ ?_ <;> intro hg <;> (try simp only[dcT,dcF,bnT,bnF] at hg))|refine st_nil ?_|refine st_tN ?_|refine st_seq ?_|refine st_block ?_|refine st_skip ?_|refine st_exit ?_|refine st_ret ?_|refine st_tE ?_|refine st_tR ?_|refine st_bN ?_|refine st_bR ?_|refine st_bH ?_)
 ·simp (disch:=omega) only[AEnd,Tryz.results66,aresK,fin,go_sem,implies_true,true_and,and_true,List.reverse_cons,List.reverse_nil]
  rw [← hall,drop_getD 0 (by omega)];simp [allIn,-List.getD_eq_getElem?_getD];omega
 ·simp (disch:=omega) only[AEnd,Tryz.results66,aresK,fin,go_sem,implies_true,true_and,and_true,List.reverse_cons,List.reverse_nil]
  rw [← hall,drop_getD 0 (by omega)];simp [allIn,-List.getD_eq_getElem?_getD];omega
 ·refine ⟨i+1,⟨by omega,by rw [← hall,drop_getD 0 (by omega:i < es.length)];simp [allIn,-List.getD_eq_getElem?_getD];omega⟩,by omega,(by repeat' (first|exact trivial|refine And.intro ?_ ?_|rfl|(simp (disch:=omega) only[go_sem,if_yes,if_no,if_no];rfl)|(simp (disch:=omega) only[go_sem,if_yes,if_no,if_no]))),(by repeat' (first|exact trivial|refine And.intro ?_ ?_|rfl|(simp (disch:=omega) only[go_sem,if_yes,if_no,if_no];rfl)|(simp (disch:=omega) only[go_sem,if_yes,if_no,if_no]))),rfl,(by first|exact HOld.of _ (by omega)|exact HOld.put _ _ _ (by omega))⟩
 ·simp (disch:=omega) only[AEnd,Tryz.results66,aresK,fin,go_sem,implies_true,true_and,and_true,List.reverse_cons,List.reverse_nil]
  rw [← hall,List.drop_eq_nil_of_le (by omega)];rfl
theorem c66a (lo hi a:Int):Pure Tryz.prog 66 [.int .i64 lo,.int .i64 hi,.lst 1 [[.int .i64 a]]] (fun v=>v=.bool (decide (lo≤a∧a≤hi))):=by
 have h:=c66 lo hi [a] (by simp)
 have e:allIn lo hi [a]=decide (lo≤a∧a≤hi):=by simp [allIn]
 rw [e] at h;exact h
theorem c106 (x:Wk):Pure Tryz.prog 106 [.agg x.row] (fun v=>v=.int .i64 (if x.a then 1 else 0)):=by
 intro h
 refine ACalls.forget (ACalls.of tab mixed Tryz.call106 Tryz.func106 rfl (fi:=⟨5,[],[1],none,[]⟩) rfl rfl (Nat.le_of_ble_eq_true rfl) (by decide) ?_)
 unfold startA
 simp only[go_sem]
 repeat' (first|refine st_seq_reg rfl (by first|(simp only[go_sem];rfl)|rfl) (by first|(simp only[go_sem];rfl)|rfl) ?_|refine st_op ?_|refine st_det rfl (by simp (disch:=omega) only[go_sem,wr_i64];rfl) ?_|(refine st_condS rfl ?_ ?_ <;> intro hg <;> (try simp only[dcT,dcF,bnT,bnF] at hg))|refine st_nil ?_|refine st_tN ?_|refine st_seq ?_|refine st_skip ?_|refine st_ret ?_|refine st_tR ?_)
 all_goals
  simp (disch:=omega) only[AEnd,Tryz.results106,aresK,fin,go_sem,implies_true,true_and,and_true,List.reverse_cons,List.reverse_nil]
  try simp [*]
theorem c107 (x:Wk):Pure Tryz.prog 107 [.agg x.row] (fun v=>v=.int .i64 (if x.b then 2 else 0)):=by
 intro h
 refine ACalls.forget (ACalls.of tab mixed Tryz.call107 Tryz.func107 rfl (fi:=⟨5,[],[1],none,[]⟩) rfl rfl (Nat.le_of_ble_eq_true rfl) (by decide) ?_)
 unfold startA
 simp only[go_sem]
 repeat' (first|refine st_seq_reg rfl (by first|(simp only[go_sem];rfl)|rfl) (by first|(simp only[go_sem];rfl)|rfl) ?_|refine st_op ?_|refine st_det rfl (by simp (disch:=omega) only[go_sem,wr_i64];rfl) ?_|(refine st_condS rfl ?_ ?_ <;> intro hg <;> (try simp only[dcT,dcF,bnT,bnF] at hg))|refine st_nil ?_|refine st_tN ?_|refine st_seq ?_|refine st_skip ?_|refine st_ret ?_|refine st_tR ?_)
 all_goals
  simp (disch:=omega) only[AEnd,Tryz.results107,aresK,fin,go_sem,implies_true,true_and,and_true,List.reverse_cons,List.reverse_nil]
  try simp [*]
theorem c108 (x:Wk):Pure Tryz.prog 108 [.agg x.row] (fun v=>v=.int .i64 (if x.c then 4 else 0)):=by
 intro h
 refine ACalls.forget (ACalls.of tab mixed Tryz.call108 Tryz.func108 rfl (fi:=⟨5,[],[1],none,[]⟩) rfl rfl (Nat.le_of_ble_eq_true rfl) (by decide) ?_)
 unfold startA
 simp only[go_sem]
 repeat' (first|refine st_seq_reg rfl (by first|(simp only[go_sem];rfl)|rfl) (by first|(simp only[go_sem];rfl)|rfl) ?_|refine st_op ?_|refine st_det rfl (by simp (disch:=omega) only[go_sem,wr_i64];rfl) ?_|(refine st_condS rfl ?_ ?_ <;> intro hg <;> (try simp only[dcT,dcF,bnT,bnF] at hg))|refine st_nil ?_|refine st_tN ?_|refine st_seq ?_|refine st_skip ?_|refine st_ret ?_|refine st_tR ?_)
 all_goals
  simp (disch:=omega) only[AEnd,Tryz.results108,aresK,fin,go_sem,implies_true,true_and,and_true,List.reverse_cons,List.reverse_nil]
  try simp [*]
def Wk.sk (x:Wk):Int:=(if x.a then 1 else 0)+(if x.b then 2 else 0)+(if x.c then 4 else 0)
def skF (x:Wk) (i:Nat):Int:=if i=0 then (if x.a then 1 else 0) else if i=1 then (if x.b then 2 else 0) else (if x.c then 4 else 0)
def skN (x:Wk):Nat→Int
 | 0=>0
 | i+1=>bitop .or .i64 (skN x i) (skF x i)
theorem skN3 (x:Wk):skN x 3=x.sk:=by
 cases x with|mk a b c=>cases a <;> cases b <;> cases c <;> decide
def fnAt (i:Nat):FuncId:=if i=0 then 106 else if i=1 then 107 else 108
theorem cfn (x:Wk) (i:Nat) (hi:i < 3):Pure Tryz.prog (fnAt i) [.agg x.row] (fun v=>v=.int .i64 (skF x i)):=by
 have:i=0 ∨ i=1 ∨ i=2:=by omega
 rcases this with rfl|rfl|rfl
 ·exact c106 x
 ·exact c107 x
 ·exact c108 x
theorem fn_getD {i:Nat} (hi:i < 3):([[.fn (.func 106) [] []],[.fn (.func 107) [] []],[.fn (.func 108) [] []]]:List (List AV)).getD i []=[.fn (.func (fnAt i)) [] []]:=by
 have:i=0 ∨ i=1 ∨ i=2:=by omega
 rcases this with rfl|rfl|rfl <;> rfl
theorem c74 (x:Wk):Pure Tryz.prog 74 [.agg x.row] (fun v=>v=.int .i64 x.sk):=by
 intro h
 refine ACalls.forget (ACalls.of tab mixed Tryz.call74 Tryz.func74 rfl (fi:=⟨19,[],[1,6],none,[]⟩) rfl rfl (Nat.le_of_ble_eq_true rfl) (by decide) ?_)
 unfold startA
 simp only[go_sem]
 repeat' (first|refine st_seq_reg rfl (by first|(simp only[go_sem];rfl)|rfl) (by first|(simp only[go_sem];rfl)|rfl) ?_|refine st_op ?_|refine st_det rfl (by simp (disch:=omega) only[go_sem,wr_i64];rfl) ?_|refine st_nil ?_|refine st_seq ?_|refine st_block ?_)
 refine st_loopC (α:=Nat) tab mixed [] [] (by repeat (first|exact trivial|refine ⟨rfl,?_⟩)) [] [] (by repeat (first|exact trivial|refine ⟨rfl,?_⟩)) (fun i=>[(8,.int .i64 i),(3,.int .i64 (skN x i))]) [(1,_),(2,_),(6,_),(7,_)] (fun _=>[]) [] (fun i=>i≤3) (fun i=>3 - i) (by decide) 0 (by omega) (by (try simp only[go_sem]);repeat' (first|exact trivial|refine And.intro ?_ ?_|rfl|(simp (disch:=omega) only[go_sem,if_yes,if_no,if_no];rfl)|(simp (disch:=omega) only[go_sem,if_yes,if_no,if_no]))) (by (try simp only[go_sem]);repeat' (first|exact trivial|refine And.intro ?_ ?_|rfl|(simp (disch:=omega) only[go_sem,if_yes,if_no,if_no];rfl)|(simp (disch:=omega) only[go_sem,if_yes,if_no,if_no]))) (by first|(simp only[go_sem];rfl)|rfl) (by intro n;simp only[go_sem];rfl) ?_
 rintro i c hi' hc
 simp only[go_sem]
 have hf:i < 3→_:=fn_getD
 repeat' (first|refine st_seq_reg rfl (by first|(simp only[go_sem,fn_getD];rfl)|rfl) (by first|(simp only[go_sem,fn_getD];rfl)|rfl) ?_|refine st_reg rfl (by first|(simp only[go_sem,fn_getD];rfl)|rfl) (by first|(simp only[go_sem,fn_getD];rfl)|rfl) ?_|refine st_op ?_|refine st_det rfl (by simp (disch:=omega) only[go_sem,wr_i64,fn_getD];rfl) ?_|(refine st_pureV (by first|(simp only[go_sem,fn_getD];rfl)|rfl) (by first|(simp (disch:=omega) only[go_sem,fn_getD];rfl)|rfl) rfl (cfn x i (by omega)) (by first|(simp only[go_sem,fn_getD];rfl)|rfl) (by intro n;first|(simp (disch:=omega) only[go_sem];rfl)|rfl) ?_;intro v n hv hn;subst hv)|(refine st_condS rfl ?_ ?_ <;> intro hg <;> (try simp only[dcT,dcF,bnT,bnF] at hg))|refine st_nil ?_|refine st_tN ?_|refine st_seq ?_|refine st_block ?_|refine st_skip ?_|refine st_exit ?_|refine st_ret ?_|refine st_tE ?_|refine st_bN ?_|refine st_bH ?_)
 ·refine ⟨i+1,(by omega),by omega,(by repeat' (first|exact trivial|refine And.intro ?_ ?_|rfl|(simp (disch:=omega) only[go_sem,if_yes,if_no,if_no];rfl)|(simp (disch:=omega) only[go_sem,if_yes,if_no,if_no]))),(by repeat' (first|exact trivial|refine And.intro ?_ ?_|rfl|(simp (disch:=omega) only[go_sem,if_yes,if_no,if_no];rfl)|(simp (disch:=omega) only[go_sem,if_yes,if_no,if_no]))),rfl,(by first|exact HOld.of _ (by omega)|exact HOld.put _ _ _ (by omega))⟩
 ·have e:i=3:=by omega
  subst e
  simp (disch:=omega) only[AEnd,Tryz.results74,aresK,fin,go_sem,implies_true,true_and,and_true,List.reverse_cons,List.reverse_nil]
  rw [skN3]
end Go.Proofs.YtaijkalhkgjakaaGreatDoor
