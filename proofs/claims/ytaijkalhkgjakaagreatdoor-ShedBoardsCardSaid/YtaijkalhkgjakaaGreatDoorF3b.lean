/- The reference's search finds the best plan, too. -/
import Derived.Test.YtaijkalhkgjakaaGreatDoorP6
import Derived.Test.YtaijkalhkgjakaaGreatDoorP2
import Derived.Test.YtaijkalhkgjakaaGreatDoorF1
set_option linter.all false
set_option linter.unusedSimpArgs false
set_option linter.unusedVariables false
namespace Go.Proofs.YtaijkalhkgjakaaGreatDoor
open Go.Av
structure Rf where
 plan:List Sf
 dn:List Bool
 hands:List Int
 ready:List Int
def withR (js:List Jb) (x:Rf) (job w:Nat):Rf :=
 let j:=jOf js job
 let day:=max (x.hands.getD w 0) (x.ready.getD j.f.toNat 0)
 { plan:=x.plan.set job ⟨w,day⟩,dn:=x.dn.set job true,hands:=x.hands.set w (day+j.d),ready:=x.ready.set j.f.toNat (day+j.d) }
def nextR (js:List Jb) (x:Rf) (job:Nat):Bool :=
 (List.range job).all (fun i=>!(decide ((jOf js i).f=(jOf js job).f) && !x.dn.getD i false)) && !x.dn.getD job false
def rf0 (S:Sp):Rf:=⟨List.replicate S.js.length ⟨0,0⟩,List.replicate S.js.length false,List.replicate S.ws.length 0,List.replicate 7 0⟩
structure RR (S:Sp) (W:Nat→Nat) (D:Dr) (x:Rf):Prop where
 pl:x.plan.length=S.js.length
 p:∀ i,i < S.js.length→D.pl.testBit i=true→pAt x.plan i=⟨W i,D.day.getD i 0⟩
 dl:x.dn.length=S.js.length
 d:∀ i,i < S.js.length→x.dn.getD i false=D.pl.testBit i
 hl:x.hands.length=S.ws.length
 h:∀ w,w < S.ws.length→x.hands.getD w 0=D.hands.getD w 0
 r:x.ready=D.fls
theorem RR.next {S:Sp} (hS:S.Ok) {W:Nat→Nat} {D:Dr} {x:Rf} (R:RR S W D x) (z:D.Sz S) {job w:Nat} (hj:job < S.js.length) (hw:w < S.ws.length) {W':Nat→Nat} (hW:∀ i,D.pl.testBit i=true→i ≠ job→W' i=W i) (hW':W' job=w) :
  RR S W' (withD S.js D job w) (withR S.js x job w):=by
 have hn7:=hS.n7
 have hm4:=hS.m4
 have e:max (x.hands.getD w 0) (x.ready.getD (jOf S.js job).f.toNat 0)=max (D.hands.getD w 0) (D.fls.getD (jOf S.js job).f.toNat 0):=by rw [R.h w hw,R.r]
 have tb:∀ k,(withD S.js D job w).pl.testBit k=(if k=job then true else D.pl.testBit k):=fun k=>testBit_put _ _ _
 refine ⟨by simp [withR,R.pl],fun i hi hb=>?_,by simp [withR,R.dl],fun i hi=>?_,by simp [withR,R.hl],fun u hu=>?_,?_⟩
 ·rw [tb] at hb
  simp only[pAt,withR,withD]
  rw [getD_set _ _ _ _ _ (by rw [R.pl];exact hj),getD_set _ _ _ _ _ (by rw [z.day];omega)]
  split
  ·rename_i h;subst h;rw [hW',e]
  ·rename_i h
   rw [if_neg h] at hb
   rw [hW i hb h]
   exact R.p i hi hb
 ·rw [tb]
  simp only[withR]
  rw [getD_set _ _ _ _ _ (by rw [R.dl];exact hj)]
  split
  ·rfl
  ·exact R.d i hi
 ·simp only[withR,withD]
  rw [getD_set _ _ _ _ _ (by rw [R.hl];exact hw),getD_set _ _ _ _ _ (by rw [z.hands];omega),e]
  split
  ·rfl
  ·exact R.h u hu
 ·simp only[withR,withD]
  rw [e,R.r]
theorem RR.ready {S:Sp} {W:Nat→Nat} {D:Dr} {x:Rf} (R:RR S W D x) {job:Nat} (hj:job < S.js.length):nextR S.js x job=true ↔ D.pl.testBit job=false∧∀ k,k < job→(S.j k).f=(S.j job).f→D.pl.testBit k=true:=by
 simp only[nextR,Bool.and_eq_true,List.all_eq_true,List.mem_range,Bool.not_eq_true',Bool.and_eq_false_iff,decide_eq_false_iff_not,Bool.not_eq_false']
 rw [R.d job hj]
 constructor
 ·rintro ⟨a,b⟩
  refine ⟨b,fun k hk hf=>?_⟩
  rcases a k hk with h|h
  ·exact absurd hf h
  ·rw [← R.d k (by omega)];exact h
 ·rintro ⟨a,b⟩
  refine ⟨fun k hk=>?_,a⟩
  by_cases hf:(jOf S.js k).f=(jOf S.js job).f
  ·right;rw [R.d k (by omega)];exact b k hk hf
  ·exact .inl hf
def OL (S:Sp) (p q:List Sf):Prop:=takesP S p < takesP S q ∨ takesP S p=takesP S q∧bef q p=false
theorem bef_irrefl (p:List Sf):bef p p=false:=by simp [bef,lex_irrefl]
theorem bef_ds {p q:List Sf} (h:bef q p=false):lexLt (dsP q) (dsP p)=false:=by
 unfold bef at h
 split at h
 ·rename_i e;rw [e];exact lex_irrefl _
 ·exact h
theorem bef_trans {p q r:List Sf} (h:bef q p=false) (k:bef r q=false):bef r p=false:=by
 have h1:=bef_ds h
 have k1:=bef_ds k
 have hk:=lex_trans _ _ _ h1 k1
 by_cases e:dsP r=dsP p
 ·rw [e] at k1
  have e2:=lex_antisymm _ _ k1 h1
  unfold bef at *
  rw [if_pos e]
  rw [if_pos e2] at h
  rw [if_pos (e.trans e2.symm)] at k
  exact lex_trans _ _ _ h k
 ·unfold bef;rw [if_neg e];exact hk
theorem OL.refl {S:Sp} (p:List Sf):OL S p p:=.inr ⟨rfl,bef_irrefl p⟩
theorem OL.trans {S:Sp} {p q r:List Sf} (h:OL S p q) (k:OL S q r):OL S p r:=by
 rcases h with h|⟨h,h2⟩ <;> rcases k with k|⟨k,k2⟩
 ·left;omega
 ·left;omega
 ·left;omega
 ·exact .inr ⟨h.trans k,bef_trans h2 k2⟩
theorem getD_repB (n k:Nat):(List.replicate n false).getD k false=false:=by
 rw [List.getD_eq_getElem?_getD,List.getElem?_replicate];split <;> rfl
theorem RR.start (S:Sp) (W:Nat→Nat):RR S W dr0 (rf0 S):=by
 refine ⟨by simp [rf0],fun i _ h=>by simp [dr0] at h,by simp [rf0],fun i hi=>?_,by simp [rf0],fun w hw=>?_,rfl⟩
 ·show (List.replicate _ false).getD i false=_
  rw [getD_repB];simp [dr0]
 ·show (List.replicate _ (0:Int)).getD w 0=(List.replicate 4 (0:Int)).getD w 0
  rw [getD_rep,getD_rep]
def fsum (js:List Jb) (f:Int):Nat→Int
 | 0=>0
 | i+1=>fsum js f i+if (jOf js i).f=f then (jOf js i).d else 0
def inSet (s:Int) (set:Nat):Bool:=set.testBit (s - 1).toNat
def Wk.has (w:Wk) (set:Nat):Bool:=(w.a && set.testBit 0) || (w.b && set.testBit 1) || (w.c && set.testBit 2)
def wsum (js:List Jb) (set:Nat):Nat→Int
 | 0=>0
 | i+1=>wsum js set i+if inSet (jOf js i).s set then (jOf js i).d else 0
def wOf (ws:List Wk) (i:Nat):Wk:=ws.getD i ⟨false,false,false⟩
def hcnt (ws:List Wk) (set:Nat):Nat→Int
 | 0=>0
 | i+1=>hcnt ws set i+if (wOf ws i).has set then 1 else 0
def ceilD (n m:Int):Int:=(n+m - 1).tdiv m
def bndD (S:Sp) (b:Int):Nat→Int
 | 0=>b
 | k+1=>if 0 < wsum S.js k S.js.length then max (bndD S b k) (ceilD (wsum S.js k S.js.length) (hcnt S.ws k S.ws.length)) else bndD S b k
def boundD (S:Sp):Int:=bndD S (maxL ((List.range 7).map fun f=>fsum S.js (f:Nat) S.js.length)) 8
def skBit (s:Int):Nat:=2 ^ (s - 1).toNat
def lackD (S:Sp):Bool:=(List.range S.js.length).any fun i=>decide (hcnt S.ws (skBit (S.j i).s) S.ws.length=0)
theorem hcnt_nonneg (ws:List Wk) (set:Nat):∀ n,0≤hcnt ws set n∧hcnt ws set n≤n:=by
 intro n
 induction n with
 | zero=>simp [hcnt]
 | succ n ih=>simp only[hcnt];split <;> omega
theorem hcnt_pos {ws:List Wk} {set:Nat} {w:Nat}:∀ {n},w < n→(wOf ws w).has set=true→1≤hcnt ws set n:=by
 intro n
 induction n with
 | zero=>intro h;omega
 | succ n ih =>
  intro h hw
  simp only[hcnt]
  have:=hcnt_nonneg ws set n
  by_cases e:w=n
  ·subst e;rw [if_pos hw];omega
  ·have:=ih (by omega) hw
   split <;> omega
theorem hcnt_zero {ws:List Wk} {set:Nat}:∀ {n},hcnt ws set n ≠ 0→∃ w,w < n∧(wOf ws w).has set=true:=by
 intro n
 induction n with
 | zero=>intro h;exact absurd rfl h
 | succ n ih =>
  intro h
  simp only[hcnt] at h
  by_cases hw:(wOf ws n).has set=true
  ·exact ⟨n,by omega,hw⟩
  ·rw [if_neg hw] at h
   obtain ⟨w,a,b⟩:=ih (by omega)
   exact ⟨w,by omega,b⟩
theorem has_can (w:Wk) {s:Int} (h:1≤s∧s≤3):w.has (skBit s)=w.can s:=by
 have:s=1 ∨ s=2 ∨ s=3:=by omega
 rcases this with rfl|rfl|rfl <;> cases w with|mk a b c=>cases a <;> cases b <;> cases c <;> rfl
theorem lack_iff {S:Sp} (hS:S.Ok):lackD S=false ↔ Manned S:=by
 unfold lackD
 simp only[List.any_eq_false,List.mem_range,decide_eq_true_eq]
 constructor
 ·intro h i hi
  obtain ⟨w,a,b⟩:=hcnt_zero (h i hi)
  refine ⟨w,a,?_⟩
  have hj:=hS.j hi
  rw [has_can _ ⟨hj.2.2.1,hj.2.2.2.1⟩] at b
  exact b
 ·intro h i hi e
  obtain ⟨w,a,b⟩:=h i hi
  have hj:=hS.j hi
  have:=hcnt_pos (ws:=S.ws) (set:=skBit (S.j i).s) a (by rw [has_can _ ⟨hj.2.2.1,hj.2.2.2.1⟩];exact b)
  omega
theorem inSet_has {w:Wk} {s:Int} {set:Nat} (hs:1≤s∧s≤3) (h:inSet s set=true) (hc:w.can s=true):w.has set=true:=by
 have:s=1 ∨ s=2 ∨ s=3:=by omega
 rcases this with rfl|rfl|rfl <;> simp_all [inSet,Wk.has,Wk.can]
theorem wsum_nonneg {S:Sp} (hS:S.Ok) (set:Nat):∀ n,n≤S.js.length→0≤wsum S.js set n∧wsum S.js set n≤30 * n:=by
 intro n
 induction n with
 | zero=>intro _;simp [wsum]
 | succ n ih =>
  intro hn
  have:=ih (by omega)
  have hj:=hS.j (show n < S.js.length by omega)
  have e:S.j n=jOf S.js n:=rfl
  rw [e] at hj
  unfold Jb.Ok at hj
  simp only[wsum]
  split <;> omega
theorem fsum_nonneg {S:Sp} (hS:S.Ok) (f:Int):∀ n,n≤S.js.length→0≤fsum S.js f n∧fsum S.js f n≤30 * n:=by
 intro n
 induction n with
 | zero=>intro _;simp [fsum]
 | succ n ih =>
  intro hn
  have:=ih (by omega)
  have hj:=hS.j (show n < S.js.length by omega)
  have e:S.j n=jOf S.js n:=rfl
  rw [e] at hj
  unfold Jb.Ok at hj
  simp only[fsum]
  split <;> omega
theorem wsum_pos {js:List Jb} {set:Nat}:∀ {n},0 < wsum js set n→∃ i,i < n∧inSet (jOf js i).s set=true:=by
 intro n
 induction n with
 | zero=>intro h;simp [wsum] at h
 | succ n ih =>
  intro h
  simp only[wsum] at h
  by_cases hs:inSet (jOf js n).s set=true
  ·exact ⟨n,by omega,hs⟩
  ·rw [if_neg hs] at h
   obtain ⟨i,a,b⟩:=ih (by omega)
   exact ⟨i,by omega,b⟩
theorem Manned.hands {S:Sp} (hS:S.Ok) (hM:Manned S) {set:Nat} (h:0 < wsum S.js set S.js.length):1≤hcnt S.ws set S.ws.length:=by
 obtain ⟨i,hi,hs⟩:=wsum_pos h
 obtain ⟨w,a,b⟩:=hM i hi
 have hj:=hS.j hi
 exact hcnt_pos a (inSet_has ⟨hj.2.2.1,hj.2.2.2.1⟩ hs b)
end Go.Proofs.YtaijkalhkgjakaaGreatDoor

namespace Go.Proofs.YtaijkalhkgjakaaGreatDoor
open Go.Av
attribute [local irreducible] thenA blockA awp awpOps awpD awp1
attribute [local go_sem_proc] Nat.reduceAdd Nat.reduceMul Nat.reduceEqDiff Nat.reduceBEq Nat.reduceLeDiff
attribute [local go_sem_proc ↓] reduceIte
attribute [local go_sem] if_yes if_no
set_option maxHeartbeats 8000000
set_option maxRecDepth 20000
def Wk.row (x:Wk):List AV:=[.bool x.a,.bool x.b,.bool x.c]
@[go_sem] theorem Wk.row_eq (x:Wk):x.row=[.bool x.a,.bool x.b,.bool x.c]:=rfl
def Jb.row (x:Jb):List AV:=[.int .i64 x.f,.int .i64 x.s,.int .i64 x.d]
@[go_sem] theorem Jb.row_eq (x:Jb):x.row=[.int .i64 x.f,.int .i64 x.s,.int .i64 x.d]:=rfl
def Sf.row (x:Sf):List AV:=[.int .i64 x.w,.int .i64 x.d]
@[go_sem] theorem Sf.row_eq (x:Sf):x.row=[.int .i64 x.w,.int .i64 x.d]:=rfl
def Sp.av (S:Sp):AV:=.agg [.lst 3 (S.ws.map Wk.row),.lst 3 (S.js.map Jb.row)]
@[go_sem] theorem Sp.av_eq (S:Sp):S.av=.agg [.lst 3 (S.ws.map Wk.row),.lst 3 (S.js.map Jb.row)]:=rfl
@[go_sem] theorem wrow_getD {l:List Wk} {i:Nat} (h:i < l.length):(l.map Wk.row).getD i []=(wOf l i).row:=by
 simp [List.getD_eq_getElem?_getD,h,wOf]
@[go_sem] theorem jrow_getD {l:List Jb} {i:Nat} (h:i < l.length):(l.map Jb.row).getD i []=(jOf l i).row:=by
 simp [List.getD_eq_getElem?_getD,h,jOf]
@[go_sem] theorem srow_getD {l:List Sf} {i:Nat} (h:i < l.length):(l.map Sf.row).getD i []=(pAt l i).row:=by
 simp [List.getD_eq_getElem?_getD,h,pAt]
theorem c66 (lo hi:Int) (es:List Int) (hl:(es.length:Int) < 1000000):Pure Tryz.prog 66 [.int .i64 lo,.int .i64 hi,.lst 1 (es.map iv)] (fun v=>v=.bool (allIn lo hi es)):=by
 intro h
 refine ACalls.forget (ACalls.of tab mixed Tryz.call66 Tryz.func66 rfl (fi:=⟨24,[],[],none,[]⟩) rfl rfl (Nat.le_of_ble_eq_true rfl) (by decide) ?_)
 unfold startA
 repeat' (first|refine st_seq_reg rfl (by first|(simp only[go_sem];rfl)|rfl) (by first|(simp only[go_sem];rfl)|rfl) ?_|refine st_op ?_|refine st_det rfl (by simp (disch:=omega) only[go_sem,wr_i64];rfl) ?_|refine st_nil ?_|refine st_seq ?_|refine st_block ?_)
 refine st_loopC (α:=Nat) tab mixed [] [] (by repeat (first|exact trivial|refine ⟨rfl,?_⟩)) [] [] (by repeat (first|exact trivial|refine ⟨rfl,?_⟩)) (fun i=>[(11,.int .i64 i)]) [(0,_),(1,_),(6,_),(9,_),(10,_)] (fun _=>[]) [] (fun i=>i≤es.length∧allIn lo hi (es.drop i)=allIn lo hi es) (fun i=>es.length - i) (by decide) 0 ⟨by omega,rfl⟩ (by (try simp only[go_sem]);repeat' (first|exact trivial|refine And.intro ?_ ?_|rfl|(simp (disch:=omega) only[go_sem,if_yes,if_no,if_no];rfl)|(simp (disch:=omega) only[go_sem,if_yes,if_no,if_no]))) (by (try simp only[go_sem]);repeat' (first|exact trivial|refine And.intro ?_ ?_|rfl|(simp (disch:=omega) only[go_sem,if_yes,if_no,if_no];rfl)|(simp (disch:=omega) only[go_sem,if_yes,if_no,if_no]))) (by first|(simp only[go_sem];rfl)|rfl) (by intro n;simp only[go_sem];rfl) ?_
 rintro i c ⟨hi',hall⟩ hc
 simp only[go_sem]
 repeat' (first|refine st_seq_reg rfl (by first|(simp only[go_sem];rfl)|rfl) (by first|(simp only[go_sem];rfl)|rfl) ?_|refine st_reg rfl (by first|(simp only[go_sem];rfl)|rfl) (by first|(simp only[go_sem];rfl)|rfl) ?_|refine st_op ?_|refine st_det rfl (by simp (disch:=omega) only[go_sem,wr_i64];rfl) ?_|refine st_gT rfl rfl rfl ?_|refine st_gF rfl rfl rfl ?_|(refine st_gS rfl rfl ?_ ?_ <;> intro hg <;> (try simp only[dcT,dcF,bnT,bnF] at hg))|refine st_condT rfl ?_|(refine st_condS rfl ?_ ?_ <;> intro hg <;> (try simp only[dcT,dcF,bnT,bnF] at hg))|refine st_nil ?_|refine st_tN ?_|refine st_seq ?_|refine st_block ?_|refine st_skip ?_|refine st_exit ?_|refine st_ret ?_|refine st_tE ?_|refine st_tR ?_|refine st_bN ?_|refine st_bR ?_|refine st_bH ?_)
 ·simp (disch:=omega) only[AEnd,Tryz.results66,aresK,fin,go_sem,implies_true,true_and,and_true,List.reverse_cons,List.reverse_nil]
  rw [← hall,drop_getD 0 (by omega)];simp [allIn,-List.getD_eq_getElem?_getD];omega
 ·simp (disch:=omega) only[AEnd,Tryz.results66,aresK,fin,go_sem,implies_true,true_and,and_true,List.reverse_cons,List.reverse_nil]
  rw [← hall,drop_getD 0 (by omega)];simp [allIn,-List.getD_eq_getElem?_getD];omega
 ·refine ⟨i+1,⟨by omega,by rw [← hall,drop_getD 0 (by omega:i < es.length)];simp [allIn,-List.getD_eq_getElem?_getD];omega⟩,by omega,(by repeat' (first|exact trivial|refine And.intro ?_ ?_|rfl|(simp (disch:=omega) only[go_sem,if_yes,if_no,if_no];rfl)|(simp (disch:=omega) only[go_sem,if_yes,if_no,if_no]))),(by repeat' (first|exact trivial|refine And.intro ?_ ?_|rfl|(simp (disch:=omega) only[go_sem,if_yes,if_no,if_no];rfl)|(simp (disch:=omega) only[go_sem,if_yes,if_no,if_no]))),rfl,(by first|exact HOld.of _ (by omega)|exact HOld.put _ _ _ (by omega))⟩
 ·simp (disch:=omega) only[AEnd,Tryz.results66,aresK,fin,go_sem,implies_true,true_and,and_true,List.reverse_cons,List.reverse_nil]
  rw [← hall,List.drop_eq_nil_of_le (by omega)];rfl
theorem c66a (lo hi a:Int):Pure Tryz.prog 66 [.int .i64 lo,.int .i64 hi,.lst 1 [[.int .i64 a]]] (fun v=>v=.bool (decide (lo≤a∧a≤hi))):=by
 have h:=c66 lo hi [a] (by simp)
 have e:allIn lo hi [a]=decide (lo≤a∧a≤hi):=by simp [allIn]
 rw [e] at h;exact h
theorem c106 (x:Wk):Pure Tryz.prog 106 [.agg x.row] (fun v=>v=.int .i64 (if x.a then 1 else 0)):=by
 intro h
 refine ACalls.forget (ACalls.of tab mixed Tryz.call106 Tryz.func106 rfl (fi:=⟨5,[],[1],none,[]⟩) rfl rfl (Nat.le_of_ble_eq_true rfl) (by decide) ?_)
 unfold startA
 simp only[go_sem]
 repeat' (first|refine st_seq_reg rfl (by first|(simp only[go_sem];rfl)|rfl) (by first|(simp only[go_sem];rfl)|rfl) ?_|refine st_op ?_|refine st_det rfl (by simp (disch:=omega) only[go_sem,wr_i64];rfl) ?_|(refine st_condS rfl ?_ ?_ <;> intro hg <;> (try simp only[dcT,dcF,bnT,bnF] at hg))|refine st_nil ?_|refine st_tN ?_|refine st_seq ?_|refine st_skip ?_|refine st_ret ?_|refine st_tR ?_)
 all_goals
  simp (disch:=omega) only[AEnd,Tryz.results106,aresK,fin,go_sem,implies_true,true_and,and_true,List.reverse_cons,List.reverse_nil]
  try simp [*]
theorem c107 (x:Wk):Pure Tryz.prog 107 [.agg x.row] (fun v=>v=.int .i64 (if x.b then 2 else 0)):=by
 intro h
 refine ACalls.forget (ACalls.of tab mixed Tryz.call107 Tryz.func107 rfl (fi:=⟨5,[],[1],none,[]⟩) rfl rfl (Nat.le_of_ble_eq_true rfl) (by decide) ?_)
 unfold startA
 simp only[go_sem]
 repeat' (first|refine st_seq_reg rfl (by first|(simp only[go_sem];rfl)|rfl) (by first|(simp only[go_sem];rfl)|rfl) ?_|refine st_op ?_|refine st_det rfl (by simp (disch:=omega) only[go_sem,wr_i64];rfl) ?_|(refine st_condS rfl ?_ ?_ <;> intro hg <;> (try simp only[dcT,dcF,bnT,bnF] at hg))|refine st_nil ?_|refine st_tN ?_|refine st_seq ?_|refine st_skip ?_|refine st_ret ?_|refine st_tR ?_)
 all_goals
  simp (disch:=omega) only[AEnd,Tryz.results107,aresK,fin,go_sem,implies_true,true_and,and_true,List.reverse_cons,List.reverse_nil]
  try simp [*]
theorem c108 (x:Wk):Pure Tryz.prog 108 [.agg x.row] (fun v=>v=.int .i64 (if x.c then 4 else 0)):=by
 intro h
 refine ACalls.forget (ACalls.of tab mixed Tryz.call108 Tryz.func108 rfl (fi:=⟨5,[],[1],none,[]⟩) rfl rfl (Nat.le_of_ble_eq_true rfl) (by decide) ?_)
 unfold startA
 simp only[go_sem]
 repeat' (first|refine st_seq_reg rfl (by first|(simp only[go_sem];rfl)|rfl) (by first|(simp only[go_sem];rfl)|rfl) ?_|refine st_op ?_|refine st_det rfl (by simp (disch:=omega) only[go_sem,wr_i64];rfl) ?_|(refine st_condS rfl ?_ ?_ <;> intro hg <;> (try simp only[dcT,dcF,bnT,bnF] at hg))|refine st_nil ?_|refine st_tN ?_|refine st_seq ?_|refine st_skip ?_|refine st_ret ?_|refine st_tR ?_)
 all_goals
  simp (disch:=omega) only[AEnd,Tryz.results108,aresK,fin,go_sem,implies_true,true_and,and_true,List.reverse_cons,List.reverse_nil]
  try simp [*]
def Wk.sk (x:Wk):Int:=(if x.a then 1 else 0)+(if x.b then 2 else 0)+(if x.c then 4 else 0)
def skF (x:Wk) (i:Nat):Int:=if i=0 then (if x.a then 1 else 0) else if i=1 then (if x.b then 2 else 0) else (if x.c then 4 else 0)
def skN (x:Wk):Nat→Int
 | 0=>0
 | i+1=>bitop .or .i64 (skN x i) (skF x i)
theorem skN3 (x:Wk):skN x 3=x.sk:=by
 cases x with|mk a b c=>cases a <;> cases b <;> cases c <;> decide
def fnAt (i:Nat):FuncId:=if i=0 then 106 else if i=1 then 107 else 108
theorem cfn (x:Wk) (i:Nat) (hi:i < 3):Pure Tryz.prog (fnAt i) [.agg x.row] (fun v=>v=.int .i64 (skF x i)):=by
 have:i=0 ∨ i=1 ∨ i=2:=by omega
 rcases this with rfl|rfl|rfl
 ·exact c106 x
 ·exact c107 x
 ·exact c108 x
theorem fn_getD {i:Nat} (hi:i < 3):([[.fn (.func 106) [] []],[.fn (.func 107) [] []],[.fn (.func 108) [] []]]:List (List AV)).getD i []=[.fn (.func (fnAt i)) [] []]:=by
 have:i=0 ∨ i=1 ∨ i=2:=by omega
 rcases this with rfl|rfl|rfl <;> rfl
theorem c74 (x:Wk):Pure Tryz.prog 74 [.agg x.row] (fun v=>v=.int .i64 x.sk):=by
 intro h
 refine ACalls.forget (ACalls.of tab mixed Tryz.call74 Tryz.func74 rfl (fi:=⟨19,[],[1,6],none,[]⟩) rfl rfl (Nat.le_of_ble_eq_true rfl) (by decide) ?_)
 unfold startA
 simp only[go_sem]
 repeat' (first|refine st_seq_reg rfl (by first|(simp only[go_sem];rfl)|rfl) (by first|(simp only[go_sem];rfl)|rfl) ?_|refine st_op ?_|refine st_det rfl (by simp (disch:=omega) only[go_sem,wr_i64];rfl) ?_|refine st_nil ?_|refine st_seq ?_|refine st_block ?_)
 refine st_loopC (α:=Nat) tab mixed [] [] (by repeat (first|exact trivial|refine ⟨rfl,?_⟩)) [] [] (by repeat (first|exact trivial|refine ⟨rfl,?_⟩)) (fun i=>[(8,.int .i64 i),(3,.int .i64 (skN x i))]) [(1,_),(2,_),(6,_),(7,_)] (fun _=>[]) [] (fun i=>i≤3) (fun i=>3 - i) (by decide) 0 (by omega) (by (try simp only[go_sem]);repeat' (first|exact trivial|refine And.intro ?_ ?_|rfl|(simp (disch:=omega) only[go_sem,if_yes,if_no,if_no];rfl)|(simp (disch:=omega) only[go_sem,if_yes,if_no,if_no]))) (by (try simp only[go_sem]);repeat' (first|exact trivial|refine And.intro ?_ ?_|rfl|(simp (disch:=omega) only[go_sem,if_yes,if_no,if_no];rfl)|(simp (disch:=omega) only[go_sem,if_yes,if_no,if_no]))) (by first|(simp only[go_sem];rfl)|rfl) (by intro n;simp only[go_sem];rfl) ?_
 rintro i c hi' hc
 simp only[go_sem]
 have hf:i < 3→_:=fn_getD
 repeat' (first|refine st_seq_reg rfl (by first|(simp only[go_sem,fn_getD];rfl)|rfl) (by first|(simp only[go_sem,fn_getD];rfl)|rfl) ?_|refine st_reg rfl (by first|(simp only[go_sem,fn_getD];rfl)|rfl) (by first|(simp only[go_sem,fn_getD];rfl)|rfl) ?_|refine st_op ?_|refine st_det rfl (by simp (disch:=omega) only[go_sem,wr_i64,fn_getD];rfl) ?_|(refine st_pureV (by first|(simp only[go_sem,fn_getD];rfl)|rfl) (by first|(simp (disch:=omega) only[go_sem,fn_getD];rfl)|rfl) rfl (cfn x i (by omega)) (by first|(simp only[go_sem,fn_getD];rfl)|rfl) (by intro n;first|(simp (disch:=omega) only[go_sem];rfl)|rfl) ?_;intro v n hv hn;subst hv)|(refine st_condS rfl ?_ ?_ <;> intro hg <;> (try simp only[dcT,dcF,bnT,bnF] at hg))|refine st_nil ?_|refine st_tN ?_|refine st_seq ?_|refine st_block ?_|refine st_skip ?_|refine st_exit ?_|refine st_ret ?_|refine st_tE ?_|refine st_bN ?_|refine st_bH ?_)
 ·refine ⟨i+1,(by omega),by omega,(by repeat' (first|exact trivial|refine And.intro ?_ ?_|rfl|(simp (disch:=omega) only[go_sem,if_yes,if_no,if_no];rfl)|(simp (disch:=omega) only[go_sem,if_yes,if_no,if_no]))),(by repeat' (first|exact trivial|refine And.intro ?_ ?_|rfl|(simp (disch:=omega) only[go_sem,if_yes,if_no,if_no];rfl)|(simp (disch:=omega) only[go_sem,if_yes,if_no,if_no]))),rfl,(by first|exact HOld.of _ (by omega)|exact HOld.put _ _ _ (by omega))⟩
 ·have e:i=3:=by omega
  subst e
  simp (disch:=omega) only[AEnd,Tryz.results74,aresK,fin,go_sem,implies_true,true_and,and_true,List.reverse_cons,List.reverse_nil]
  rw [skN3]
end Go.Proofs.YtaijkalhkgjakaaGreatDoor

namespace Go.Proofs.YtaijkalhkgjakaaGreatDoor
open Go.Av
attribute [local irreducible] thenA blockA awp awpOps awpD awp1
attribute [local go_sem_proc] Nat.reduceAdd Nat.reduceMul Nat.reduceEqDiff Nat.reduceBEq Nat.reduceLeDiff
attribute [local go_sem_proc ↓] reduceIte
attribute [local go_sem] if_yes if_no
set_option maxHeartbeats 8000000
set_option maxRecDepth 20000
def gB:Nat→Option (List AV):=fun g=>if g=0 then some [.int .i64 0,.int .i64 1,.int .i64 2,.int .i64 4] else none
def ndI (s:Int):Int:=if s=1 then 1 else if s=2 then 2 else 4
theorem c73 (x:Jb) (hs:1≤x.s∧x.s≤3):PureG gB Tryz.prog 73 [.agg x.row] (fun v=>v=.int .i64 (ndI x.s)):=by
 intro h hgl
 have hg0:h.gl 0=some [.int .i64 0,.int .i64 1,.int .i64 2,.int .i64 4]:=by rw [hgl];rfl
 obtain ⟨f,s,d⟩:=x
 dsimp only at hs
 have hc:s=1 ∨ s=2 ∨ s=3:=by omega
 rcases hc with rfl|rfl|rfl
 all_goals
  refine ACalls.forget (ACalls.of tab mixed Tryz.call73 Tryz.func73 rfl (fi:=⟨7,[],[1],none,[]⟩) rfl rfl (Nat.le_of_ble_eq_true rfl) (by decide) ?_)
  unfold startA
  simp only[go_sem]
  repeat' (first|refine st_seq_reg rfl (by first|(simp only[go_sem,hg0];rfl)|rfl) (by first|(simp only[go_sem,hg0];rfl)|rfl) ?_|refine st_op ?_|refine st_det rfl (by simp (disch:=omega) only[go_sem,wr_i64,hg0];rfl) ?_|refine st_nil ?_|refine st_ret ?_)
  simp (disch:=omega) only[AEnd,Tryz.results73,aresK,fin,go_sem,implies_true,true_and,and_true,List.reverse_cons,List.reverse_nil]
  rfl
def jobE (j:Jb):Int:=if ¬ (0≤j.f∧j.f≤6) then 2 else if ¬ (1≤j.s∧j.s≤3) then 3 else if ¬ (1≤j.d∧j.d≤30) then 2 else 0
def jobsE:List Jb→Int
 | []=>0
 | j :: l=>if jobE j ≠ 0 then jobE j else jobsE l
def shopE (S:Sp):Int:=if S.ws.length=0 then 4 else if (S.ws.length:Int) > 4 then 5 else if (S.js.length:Int) > 7 then 5 else jobsE S.js
theorem drop_jb {l:List Jb} {i:Nat} (h:i < l.length):l.drop i=jOf l i :: l.drop (i+1):=by
 rw [List.drop_eq_getElem_cons h];simp [jOf,List.getD_eq_getElem?_getD,h]
theorem jobs_f {l:List Jb} {i:Nat} (hi:i < l.length) (hall:jobsE (l.drop i)=jobsE l) (h:¬ (0≤(jOf l i).f∧(jOf l i).f≤6)):jobsE l=2:=by
 have e:jobE (jOf l i)=2:=by unfold jobE;rw [if_pos h]
 rw [← hall,drop_jb hi,jobsE,e];rfl
theorem jobs_s {l:List Jb} {i:Nat} (hi:i < l.length) (hall:jobsE (l.drop i)=jobsE l) (h0:0≤(jOf l i).f∧(jOf l i).f≤6) (h:¬ (1≤(jOf l i).s∧(jOf l i).s≤3)):jobsE l=3:=by
 have e:jobE (jOf l i)=3:=by unfold jobE;rw [if_neg (by omega),if_pos h]
 rw [← hall,drop_jb hi,jobsE,e];rfl
theorem jobs_d {l:List Jb} {i:Nat} (hi:i < l.length) (hall:jobsE (l.drop i)=jobsE l) (h0:0≤(jOf l i).f∧(jOf l i).f≤6) (h1:1≤(jOf l i).s∧(jOf l i).s≤3) (h:¬ (1≤(jOf l i).d∧(jOf l i).d≤30)):jobsE l=2:=by
 have e:jobE (jOf l i)=2:=by unfold jobE;rw [if_neg (by omega),if_neg (by omega),if_pos h]
 rw [← hall,drop_jb hi,jobsE,e];rfl
theorem jobs_ok {l:List Jb} {i:Nat} (hi:i < l.length) (hall:jobsE (l.drop i)=jobsE l) (h0:0≤(jOf l i).f∧(jOf l i).f≤6) (h1:1≤(jOf l i).s∧(jOf l i).s≤3) (h:1≤(jOf l i).d∧(jOf l i).d≤30):jobsE (l.drop (i+1))=jobsE l:=by
 have e:jobE (jOf l i)=0:=by unfold jobE;rw [if_neg (by omega),if_neg (by omega),if_neg (by omega)]
 rw [← hall,drop_jb hi,jobsE,e];rfl
theorem shop_0 {S:Sp} (h:S.ws.length=0):shopE S=4:=by unfold shopE;rw [if_pos h]
theorem shop_4 {S:Sp} (h0:S.ws.length ≠ 0) (h:(S.ws.length:Int) > 4):shopE S=5:=by unfold shopE;rw [if_neg h0,if_pos h]
theorem shop_7 {S:Sp} (h0:S.ws.length ≠ 0) (h1:¬ (S.ws.length:Int) > 4) (h:(S.js.length:Int) > 7):shopE S=5:=by unfold shopE;rw [if_neg h0,if_neg h1,if_pos h]
theorem shop_in {S:Sp} (h0:S.ws.length ≠ 0) (h1:¬ (S.ws.length:Int) > 4) (h:¬ (S.js.length:Int) > 7):shopE S=jobsE S.js:=by unfold shopE;rw [if_neg h0,if_neg h1,if_neg h]
theorem c26 (S:Sp):Pure Tryz.prog 26 [S.av] (fun v=>v=.int .i64 (shopE S)):=by
 intro h
 refine ACalls.forget (ACalls.of tab mixed Tryz.call26 Tryz.func26 rfl (fi:=⟨45,[4],[1,29,35,41],none,[]⟩) rfl rfl (Nat.le_of_ble_eq_true rfl) (by decide) ?_)
 unfold startA
 simp only[go_sem]
 repeat' (first|refine st_seq_reg rfl (by first|(simp only[go_sem];rfl)|rfl) (by first|(simp only[go_sem];rfl)|rfl) ?_|refine st_reg rfl (by first|(simp only[go_sem];rfl)|rfl) (by first|(simp only[go_sem];rfl)|rfl) ?_|refine st_op ?_|refine st_det rfl (by simp (disch:=omega) only[go_sem,wr_i64];rfl) ?_|refine st_condT rfl ?_|(refine st_condS rfl ?_ ?_ <;> intro hg <;> (try simp only[dcT,dcF,bnT,bnF] at hg))|refine st_nil ?_|refine st_tN ?_|refine st_seq ?_|refine st_block ?_|refine st_skip ?_|refine st_ret ?_|refine st_tR ?_|refine st_bN ?_|refine st_bR ?_)
 case' refine_2.refine_2.refine_2 =>
  refine st_loopC (α:=Nat) tab mixed [] [] (by repeat (first|exact trivial|refine ⟨rfl,?_⟩)) [] [] (by repeat (first|exact trivial|refine ⟨rfl,?_⟩)) (fun i=>[(22,.int .i64 i)]) [(1,_),(2,_),(20,_),(21,_)] (fun _=>[]) [] (fun i=>i≤S.js.length∧jobsE (S.js.drop i)=jobsE S.js) (fun i=>S.js.length - i) (by decide) 0 ⟨by omega,rfl⟩ (by (try simp only[go_sem]);repeat' (first|exact trivial|refine And.intro ?_ ?_|rfl|(simp (disch:=omega) only[go_sem,if_yes,if_no,if_no];rfl)|(simp (disch:=omega) only[go_sem,if_yes,if_no,if_no]))) (by (try simp only[go_sem]);repeat' (first|exact trivial|refine And.intro ?_ ?_|rfl|(simp (disch:=omega) only[go_sem,if_yes,if_no,if_no];rfl)|(simp (disch:=omega) only[go_sem,if_yes,if_no,if_no]))) (by first|(simp only[go_sem];rfl)|rfl) (by intro n;simp only[go_sem];rfl) ?_
  rintro i c ⟨hi',hall⟩ hc
  simp only[go_sem]
  repeat' (first|refine st_seq_reg rfl (by first|(simp only[go_sem];rfl)|rfl) (by first|(simp only[go_sem];rfl)|rfl) ?_|refine st_reg rfl (by first|(simp only[go_sem];rfl)|rfl) (by first|(simp only[go_sem];rfl)|rfl) ?_|refine st_op ?_|refine st_det rfl (by simp (disch:=omega) only[go_sem,wr_i64];rfl) ?_|refine st_loc rfl (by simp (disch:=omega) only[go_sem,wr_i64];rfl) ?_|refine st_store (by simp (disch:=omega) only[go_sem,wr_i64];rfl) ?_|(refine st_pureE (by first|(simp (disch:=omega) only[go_sem];rfl)|rfl) rfl (c66a _ _ _) (by first|(simp only[go_sem];rfl)|rfl) (by intro n;first|(simp (disch:=omega) only[go_sem];rfl)|rfl) ?_;intro n hn)|(refine st_condS rfl ?_ ?_ <;> intro hg <;> (try simp only[dcT,dcF,bnT,bnF] at hg))|refine st_nil ?_|refine st_tN ?_|refine st_seq ?_|refine st_block ?_|refine st_skip ?_|refine st_exit ?_|refine st_ret ?_|refine st_tE ?_|refine st_tR ?_|refine st_bN ?_|refine st_bR ?_|refine st_bH ?_)
  ·simp (disch:=omega) only[AEnd,Tryz.results26,aresK,fin,go_sem,implies_true,true_and,and_true,List.reverse_cons,List.reverse_nil]
   rw [shop_in (by omega) (by omega) (by omega),jobs_f (by omega) hall (by omega)]
  ·simp (disch:=omega) only[AEnd,Tryz.results26,aresK,fin,go_sem,implies_true,true_and,and_true,List.reverse_cons,List.reverse_nil]
   rw [shop_in (by omega) (by omega) (by omega),jobs_s (by omega) hall (by omega) (by omega)]
  ·simp (disch:=omega) only[AEnd,Tryz.results26,aresK,fin,go_sem,implies_true,true_and,and_true,List.reverse_cons,List.reverse_nil]
   rw [shop_in (by omega) (by omega) (by omega),jobs_d (by omega) hall (by omega) (by omega) (by omega)]
  ·refine ⟨i+1,⟨by omega,jobs_ok (by omega) hall (by omega) (by omega) (by omega)⟩,by omega,(by repeat' (first|exact trivial|refine And.intro ?_ ?_|rfl|(simp (disch:=omega) only[go_sem,if_yes,if_no,if_no];rfl)|(simp (disch:=omega) only[go_sem,if_yes,if_no,if_no]))),(by repeat' (first|exact trivial|refine And.intro ?_ ?_|rfl|(simp (disch:=omega) only[go_sem,if_yes,if_no,if_no];rfl)|(simp (disch:=omega) only[go_sem,if_yes,if_no,if_no]))),rfl,(by first|exact HOld.of _ (by omega)|exact HOld.put _ _ _ (by omega))⟩
  ·simp (disch:=omega) only[AEnd,Tryz.results26,aresK,fin,go_sem,implies_true,true_and,and_true,List.reverse_cons,List.reverse_nil]
   rw [List.drop_eq_nil_of_le (by omega),jobsE] at hall
   rw [shop_in (by omega) (by omega) (by omega),← hall]
 all_goals
  simp (disch:=omega) only[AEnd,Tryz.results26,aresK,fin,go_sem,implies_true,true_and,and_true,List.reverse_cons,List.reverse_nil]
  first
  | rw [shop_0 (by omega)]
  | rw [shop_4 (by omega) (by omega)]
  | rw [shop_7 (by omega) (by omega) (by omega)]
end Go.Proofs.YtaijkalhkgjakaaGreatDoor

namespace Go.Proofs.YtaijkalhkgjakaaGreatDoor
open Go.Av Go.Txt Go.Lib
set_option maxRecDepth 20000
def gT:Nat→Option (List AV):=fun g=>if g=0 then some [.int .i64 0,.int .i64 1,.int .i64 2,.int .i64 4] else if g=1 then some powAV else if g=2 then some [.ani] else if g=3 then some [.ifc] else if g=4 then some [.ifc] else none
theorem gBT:∀ i cs,gB i=some cs→gT i=some cs:=by
 intro i cs h
 unfold gB at h
 split at h
 ·rename_i e;subst e;cases h;rfl
 ·cases h
theorem c79 (n:Int) (h0:-9223372036854775808≤n) (h1:n≤9223372036854775807):PureG gT Tryz.prog 79 [.int .i64 n] (fun v=>v=.str (itoa n)) :=
 cItoa (ρ:=laysM171_ren) (g:=1) laysM171 Tryz.call79 rfl (by kernel_rfl) n h0 h1
theorem c114 (s:List UInt8) (hs:s.length≤281474976710656):PureG gT Tryz.prog 114 [.str s] (fun v=>v=atoiV s) :=
 cAtoi (ρ:=laysC172_ren) laysC172 Tryz.call114 rfl rfl s hs
theorem c86 (s:List UInt8) (b:UInt8) (hs:s.length < 4294967281):PureG gT Tryz.prog 86 [.str s,.str [b]] (fun v=>v=.lst 1 (strs (splitL b s))) :=
 cSplit (ρ:=lays146_ren) lays146 Tryz.call86 (by kernel_rfl) rfl s b hs
abbrev BdZ:=Bd 139 5
theorem c78 {h0 h:AH} {l:Nat} {bs s:List UInt8} (hB:BdZ h0 h l bs) (hl:bs.length+s.length≤140737488355328) :
  ACalls Tryz.prog 78 [.gptr l 0,.str s] h (fun r h'=>r=.tup [.int .i64 s.length,.nilif]∧BdZ h0 h' l (bs ++ s)∧h'.at_=h.at_∧h'.clk=h.clk∧h'.gl=h.gl):=cWriteString wStr Tryz.call78 hB hl
theorem c80 {h0 h:AH} {l:Nat} {bs:List UInt8} (b:UInt8) (hB:BdZ h0 h l bs) (hl:bs.length+1≤140737488355328) :
  ACalls Tryz.prog 80 [.gptr l 0,.int .u8 b.toNat] h (fun r h'=>r=.nilif∧BdZ h0 h' l (bs ++ [b])∧h'.at_=h.at_∧h'.clk=h.clk∧h'.gl=h.gl):=cWriteByte wByte Tryz.call80 b hB hl
theorem c81 {h0 h:AH} {l:Nat} {bs:List UInt8} (hB:BdZ h0 h l bs) (hl:bs ≠ []) :
  ACalls Tryz.prog 81 [.gptr l 0] h (fun r h'=>r=.str bs∧(∀ i r,h0.lp i=some r→h'.lp i=some r)∧h'.at_=h.at_∧h'.clk=h.clk∧h'.gl=h.gl):=cString (ρ:=lays169_ren) lays169 Builder_Extra_169 Tryz.call81 hB hl
end Go.Proofs.YtaijkalhkgjakaaGreatDoor

namespace Go.Proofs.YtaijkalhkgjakaaGreatDoor
open Go.Av
attribute [local irreducible] thenA blockA awp awpOps awpD awp1
attribute [local go_sem_proc] Nat.reduceAdd Nat.reduceMul Nat.reduceEqDiff Nat.reduceBEq Nat.reduceLeDiff
attribute [local go_sem_proc ↓] reduceIte
attribute [local go_sem] if_yes if_no
set_option maxHeartbeats 8000000
set_option maxRecDepth 20000
def hurdlesE:List Hu→Int
 | []=>0
 | x :: l=>if hurdleE x ≠ 0 then hurdleE x else hurdlesE l
def routeE (l:List Hu):Int:=if (l.length:Int) > 40 then 5 else hurdlesE l
theorem c52 (r:List Hu):Pure Tryz.prog 52 [.lst 3 (r.map Hu.row)] (fun v=>v=.int .i64 (routeE r)):=by
 intro h
 refine ACalls.forget (ACalls.of tab mixed Tryz.call52 Tryz.func52 rfl (fi:=⟨21,[4],[],none,[]⟩) rfl rfl (Nat.le_of_ble_eq_true rfl) (by decide) ?_)
 unfold startA
 try simp only[go_sem]
 repeat' (first|refine st_seq_reg rfl (by first|(simp only[go_sem];rfl)|rfl) (by first|(simp only[go_sem];rfl)|rfl) ?_|refine st_op ?_|refine st_det rfl (by simp (disch:=omega) only[go_sem,wr_i64];rfl) ?_|(refine st_condS rfl ?_ ?_ <;> intro hg <;> (try simp only[dcT,dcF,bnT,bnF] at hg))|refine st_nil ?_|refine st_tN ?_|refine st_seq ?_|refine st_block ?_|refine st_skip ?_|refine st_ret ?_|refine st_tR ?_)
 ·simp (disch:=omega) only[AEnd,Tryz.results52,aresK,fin,go_sem,implies_true,true_and,and_true,List.reverse_cons,List.reverse_nil]
  simp [routeE] <;> omega
 refine st_loopC (α:=Nat) tab mixed [] [] (by repeat (first|exact trivial|refine ⟨rfl,?_⟩)) [] [] (by repeat (first|exact trivial|refine ⟨rfl,?_⟩)) (fun i=>[(11,.int .i64 i)]) [(0,_),(2,_),(9,_),(10,_)] (fun _=>[]) [] (fun i=>i≤r.length∧hurdlesE (r.drop i)=hurdlesE r) (fun i=>r.length - i) (by decide) 0 ⟨by omega,rfl⟩ (by (try simp only[go_sem]);repeat' (first|exact trivial|refine And.intro ?_ ?_|rfl|(simp (disch:=omega) only[go_sem,if_yes,if_no,if_no];rfl)|(simp (disch:=omega) only[go_sem,if_yes,if_no,if_no]))) (by (try simp only[go_sem]);repeat' (first|exact trivial|refine And.intro ?_ ?_|rfl|(simp (disch:=omega) only[go_sem,if_yes,if_no,if_no];rfl)|(simp (disch:=omega) only[go_sem,if_yes,if_no,if_no]))) (by first|(simp only[go_sem];rfl)|rfl) (by intro n;simp only[go_sem];rfl) ?_
 rintro i c ⟨hi',hall⟩ hc
 simp only[go_sem]
 repeat' (first|refine st_seq_reg rfl (by first|(simp only[go_sem];rfl)|rfl) (by first|(simp only[go_sem];rfl)|rfl) ?_|refine st_reg rfl (by first|(simp only[go_sem];rfl)|rfl) (by first|(simp only[go_sem];rfl)|rfl) ?_|refine st_op ?_|refine st_det rfl (by simp (disch:=omega) only[go_sem,wr_i64];rfl) ?_|refine st_loc rfl (by simp (disch:=omega) only[go_sem,wr_i64];rfl) ?_|refine st_store (by simp (disch:=omega) only[go_sem,wr_i64];rfl) ?_|(refine st_pureE (by first|(simp (disch:=omega) only[go_sem];rfl)|rfl) rfl (c90 (hu r i)) (by first|(simp only[go_sem];rfl)|rfl) (by intro n;first|(simp (disch:=omega) only[go_sem];rfl)|rfl) ?_;intro n hn)|(refine st_condS rfl ?_ ?_ <;> intro hg <;> (try simp only[dcT,dcF,bnT,bnF] at hg))|refine st_nil ?_|refine st_tN ?_|refine st_seq ?_|refine st_block ?_|refine st_skip ?_|refine st_exit ?_|refine st_ret ?_|refine st_tE ?_|refine st_tR ?_|refine st_bN ?_|refine st_bR ?_|refine st_bH ?_)
 ·simp (disch:=omega) only[AEnd,Tryz.results52,aresK,fin,go_sem,implies_true,true_and,and_true,List.reverse_cons,List.reverse_nil]
  rw [drop_hu (by omega)] at hall
  rw [hurdlesE,if_pos (by assumption)] at hall
  simp [routeE] <;> omega
 ·refine ⟨i+1,⟨by omega,by rw [drop_hu (by omega),hurdlesE,if_neg (by assumption)] at hall;exact hall⟩,by omega,(by repeat' (first|exact trivial|refine And.intro ?_ ?_|rfl|(simp (disch:=omega) only[go_sem,if_yes,if_no,if_no];rfl)|(simp (disch:=omega) only[go_sem,if_yes,if_no,if_no]))),(by repeat' (first|exact trivial|refine And.intro ?_ ?_|rfl|(simp (disch:=omega) only[go_sem,if_yes,if_no,if_no];rfl)|(simp (disch:=omega) only[go_sem,if_yes,if_no,if_no]))),rfl,(by first|exact HOld.of _ (by omega)|exact HOld.put _ _ _ (by omega))⟩
 ·simp (disch:=omega) only[AEnd,Tryz.results52,aresK,fin,go_sem,implies_true,true_and,and_true,List.reverse_cons,List.reverse_nil]
  rw [List.drop_eq_nil_of_le (by omega),hurdlesE] at hall
  simp [routeE] <;> omega
theorem c170 (es:List Int) (hl:(es.length:Int) < 1000000) (hb:∀ i≤es.length,-4611686018427387904≤(es.take i).sum∧(es.take i).sum≤4611686018427387904):Pure Tryz.prog 170 [.lst 1 (es.map iv)] (fun v=>v=.int .i64 es.sum):=by
 intro h
 refine ACalls.forget (ACalls.of tab mixed Tryz.call170 Tryz.func170 rfl (fi:=⟨17,[],[],none,[]⟩) rfl rfl (Nat.le_of_ble_eq_true rfl) (by decide) ?_)
 unfold startA
 repeat' (first|refine st_seq_reg rfl (by first|(simp only[go_sem];rfl)|rfl) (by first|(simp only[go_sem];rfl)|rfl) ?_|refine st_op ?_|refine st_det rfl (by simp (disch:=omega) only[go_sem,wr_i64];rfl) ?_|refine st_nil ?_|refine st_seq ?_|refine st_block ?_)
 refine st_loopC (α:=Nat) tab mixed [] [] (by repeat (first|exact trivial|refine ⟨rfl,?_⟩)) [] [] (by repeat (first|exact trivial|refine ⟨rfl,?_⟩)) (fun i=>[(8,.int .i64 i),(3,.int .i64 (es.take i).sum)]) [(2,_),(6,_),(7,_)] (fun _=>[]) [] (fun i=>i≤es.length) (fun i=>es.length - i) (by decide) 0 (by omega) (by (try simp only[go_sem]);repeat' (first|exact trivial|refine And.intro ?_ ?_|rfl|(simp (disch:=omega) only[go_sem,if_yes,if_no,if_no];rfl)|(simp (disch:=omega) only[go_sem,if_yes,if_no,if_no]))) (by (try simp only[go_sem]);repeat' (first|exact trivial|refine And.intro ?_ ?_|rfl|(simp (disch:=omega) only[go_sem,if_yes,if_no,if_no];rfl)|(simp (disch:=omega) only[go_sem,if_yes,if_no,if_no]))) (by first|(simp only[go_sem];rfl)|rfl) (by intro n;simp only[go_sem];rfl) ?_
 rintro i c hi' hc
 simp only[go_sem]
 have e:i < es.length→(es.take (i+1)).sum=(es.take i).sum+es.getD i 0:=fun h=>by
  rw [List.take_succ_eq_append_getElem h,List.sum_append,List.getD_eq_getElem?_getD,List.getElem?_eq_getElem h];simp
 have b1:=hb i hi'
 have b2:i < es.length→_:=fun h=>hb (i+1) h
 repeat' (first|refine st_seq_reg rfl (by first|(simp only[go_sem];rfl)|rfl) (by first|(simp only[go_sem];rfl)|rfl) ?_|refine st_reg rfl (by first|(simp only[go_sem];rfl)|rfl) (by first|(simp only[go_sem];rfl)|rfl) ?_|refine st_op ?_|refine st_det rfl (by simp (disch:=omega) only[go_sem,wr_i64];rfl) ?_|(refine st_condS rfl ?_ ?_ <;> intro hg <;> (try simp only[dcT,dcF,bnT,bnF] at hg))|refine st_nil ?_|refine st_tN ?_|refine st_seq ?_|refine st_block ?_|refine st_skip ?_|refine st_exit ?_|refine st_ret ?_|refine st_tE ?_|refine st_bN ?_|refine st_bH ?_)
 ·refine ⟨i+1,(by omega),by omega,(by (try (rw [e (by omega)]));repeat' (first|exact trivial|refine And.intro ?_ ?_|rfl|(simp (disch:=omega) only[go_sem,if_yes,if_no,if_no];rfl)|(simp (disch:=omega) only[go_sem,if_yes,if_no,if_no]))),(by (try (rw [e (by omega)]));repeat' (first|exact trivial|refine And.intro ?_ ?_|rfl|(simp (disch:=omega) only[go_sem,if_yes,if_no,if_no];rfl)|(simp (disch:=omega) only[go_sem,if_yes,if_no,if_no]))),rfl,(by first|exact HOld.of _ (by omega)|exact HOld.put _ _ _ (by omega))⟩
 ·rw [List.take_of_length_le (by omega)]
  simp (disch:=omega) only[AEnd,Tryz.results170,aresK,fin,go_sem,implies_true,true_and,and_true,List.reverse_cons,List.reverse_nil]
theorem sum2 (a b:Int) (ha:-2305843009213693952≤a∧a≤2305843009213693952) (hb:-2305843009213693952≤b∧b≤2305843009213693952):Pure Tryz.prog 170 [.lst 1 [[.int .i64 a],[.int .i64 b]]] (fun v=>v=.int .i64 (a+b)):=by
 have h:=c170 [a,b] (by simp) (by
  intro i hi
  rcases i with _|_|_|i
  ·simp
  ·simp;omega
  ·simp;omega
  ·simp at hi)
 simpa [iv] using h
end Go.Proofs.YtaijkalhkgjakaaGreatDoor
