/- The reference's search finds the best plan, too. -/
import Derived.Test.YtaijkalhkgjakaaDoorP6
import Derived.Test.YtaijkalhkgjakaaDoorP1
open Nat (reduceAdd reduceMul reduceEqDiff reduceLeDiff)
set_option linter.all false
set_option linter.unusedSimpArgs false
set_option linter.unusedVariables false
namespace Go.Proofs.YtaijkalhkgjakaaDoor
open Go.Av
structure Rf where
  plan:List Sf
  dn:List Bool
  hands:List Int
  ready:List Int
def withR (js:List Jb) (x:Rf) (job w:Nat):Rf :=
  let j:=jOf js job
  let day:=max (x.hands.getD w 0) (x.ready.getD j.f.toNat 0)
  { plan:=x.plan.set job ⟨w,day⟩,dn:=x.dn.set job true,hands:=x.hands.set w (day+j.d),ready:=x.ready.set j.f.toNat (day+j.d) }
def nextR (js:List Jb) (x:Rf) (job:Nat):Bool :=
  (List.range job).all (fun i=>!(decide ((jOf js i).f=(jOf js job).f) && !x.dn.getD i false)) && !x.dn.getD job false
def kidR (S:Sp) (x:Rf) (job w:Nat):Option Rf:=if nextR S.js x job && (S.wk w).can (S.j job).s then some (withR S.js x job w) else none
def kidsR (S:Sp) (x:Rf):List Rf:=(List.range S.js.length).flatMap fun job=>(List.range S.ws.length).filterMap (kidR S x job)
def winR (S:Sp) (p q:List Sf):Bool:=decide (takesP S p < takesP S q) || decide (takesP S p=takesP S q) && bef p q
def searchR (S:Sp):Nat→Rf→List Sf × Bool→List Sf × Bool
  | 0,x,st=>if !st.2 || winR S x.plan st.1 then (x.plan,true) else st
  | f+1,x,st=>(kidsR S x).foldl (fun st y=>searchR S f y st) st
def rf0 (S:Sp):Rf:=⟨List.replicate S.js.length ⟨0,0⟩,List.replicate S.js.length false,List.replicate S.ws.length 0,List.replicate 7 0⟩
def bestR (S:Sp):List Sf:=(searchR S S.js.length (rf0 S) (List.replicate S.js.length ⟨0,0⟩,false)).1
theorem mem_kidsR {S:Sp} {x y:Rf}:y ∈ kidsR S x ↔ ∃ job i,job < S.js.length∧i < S.ws.length∧kidR S x job i=some y:=by
  simp only[kidsR,List.mem_flatMap,List.mem_range,List.mem_filterMap]
  constructor
  · rintro ⟨job,h1,i,h2,h3⟩;exact ⟨job,i,h1,h2,h3⟩
  · rintro ⟨job,i,h1,h2,h3⟩;exact ⟨job,h1,i,h2,h3⟩
structure RR (S:Sp) (W:Nat→Nat) (D:Dr) (x:Rf):Prop where
  pl:x.plan.length=S.js.length
  p:∀ i,i < S.js.length→D.pl.testBit i=true→pAt x.plan i=⟨W i,D.day.getD i 0⟩
  dl:x.dn.length=S.js.length
  d:∀ i,i < S.js.length→x.dn.getD i false=D.pl.testBit i
  hl:x.hands.length=S.ws.length
  h:∀ w,w < S.ws.length→x.hands.getD w 0=D.hands.getD w 0
  r:x.ready=D.fls
theorem RR.next {S:Sp} (hS:S.Ok) {W:Nat→Nat} {D:Dr} {x:Rf} (R:RR S W D x) (z:D.Sz S) {job w:Nat} (hj:job < S.js.length) (hw:w < S.ws.length) {W':Nat→Nat} (hW:∀ i,D.pl.testBit i=true→i ≠ job→W' i=W i) (hW':W' job=w) :
    RR S W' (withD S.js D job w) (withR S.js x job w):=by
  have hn7:=hS.n7
  have hm4:=hS.m4
  have e:max (x.hands.getD w 0) (x.ready.getD (jOf S.js job).f.toNat 0)=max (D.hands.getD w 0) (D.fls.getD (jOf S.js job).f.toNat 0):=by rw [R.h w hw,R.r]
  have tb:∀ k,(withD S.js D job w).pl.testBit k=(if k=job then true else D.pl.testBit k):=fun k=>testBit_put _ _ _
  refine ⟨by simp [withR,R.pl],fun i hi hb=>?_,by simp [withR,R.dl],fun i hi=>?_,by simp [withR,R.hl],fun u hu=>?_,?_⟩
  · rw [tb] at hb
    simp only[pAt,withR,withD]
    rw [getD_set _ _ _ _ _ (by rw [R.pl];exact hj),getD_set _ _ _ _ _ (by rw [z.day];omega)]
    split
    · rename_i h;subst h;rw [hW',e]
    · rename_i h
      rw [if_neg h] at hb
      rw [hW i hb h]
      exact R.p i hi hb
  · rw [tb]
    simp only[withR]
    rw [getD_set _ _ _ _ _ (by rw [R.dl];exact hj)]
    split
    · rfl
    · exact R.d i hi
  · simp only[withR,withD]
    rw [getD_set _ _ _ _ _ (by rw [R.hl];exact hw),getD_set _ _ _ _ _ (by rw [z.hands];omega),e]
    split
    · rfl
    · exact R.h u hu
  · simp only[withR,withD]
    rw [e,R.r]
theorem RR.ready {S:Sp} {W:Nat→Nat} {D:Dr} {x:Rf} (R:RR S W D x) {job:Nat} (hj:job < S.js.length):nextR S.js x job=true ↔ D.pl.testBit job=false∧∀ k,k < job→(S.j k).f=(S.j job).f→D.pl.testBit k=true:=by
  simp only[nextR,Bool.and_eq_true,List.all_eq_true,List.mem_range,Bool.not_eq_true',Bool.and_eq_false_iff,decide_eq_false_iff_not,Bool.not_eq_false']
  rw [R.d job hj]
  constructor
  · rintro ⟨a,b⟩
    refine ⟨b,fun k hk hf=>?_⟩
    rcases a k hk with h|h
    · exact absurd hf h
    · rw [← R.d k (by omega)];exact h
  · rintro ⟨a,b⟩
    refine ⟨fun k hk=>?_,a⟩
    by_cases hf:(jOf S.js k).f=(jOf S.js job).f
    · right;rw [R.d k (by omega)];exact b k hk hf
    · exact .inl hf
theorem readyD_of {S:Sp} {D:Dr} {job:Nat} (h:D.pl.testBit job=false∧∀ k,k < job→(S.j k).f=(S.j job).f→D.pl.testBit k=true):readyD S.js D job=true:=by
  unfold readyD
  simp only[h.1,Bool.not_false,Bool.true_and,Bool.or_eq_true,decide_eq_true_eq]
  rcases befJ_cases S.js (jOf S.js job).f job with ⟨e,_⟩|⟨k,e,hk,hf,_⟩
  · left;omega
  · right;rw [e];exact h.2 k hk hf
def OL (S:Sp) (p q:List Sf):Prop:=takesP S p < takesP S q ∨ takesP S p=takesP S q∧bef q p=false
theorem bef_irrefl (p:List Sf):bef p p=false:=by simp [bef,lex_irrefl]
theorem bef_ds {p q:List Sf} (h:bef q p=false):lexLt (dsP q) (dsP p)=false:=by
  unfold bef at h
  split at h
  · rename_i e;rw [e];exact lex_irrefl _
  · exact h
theorem bef_trans {p q r:List Sf} (h:bef q p=false) (k:bef r q=false):bef r p=false:=by
  have h1:=bef_ds h
  have k1:=bef_ds k
  have hk:=lex_trans _ _ _ h1 k1
  by_cases e:dsP r=dsP p
  · rw [e] at k1
    have e2:=lex_antisymm _ _ k1 h1
    unfold bef at *
    rw [if_pos e]
    rw [if_pos e2] at h
    rw [if_pos (e.trans e2.symm)] at k
    exact lex_trans _ _ _ h k
  · unfold bef;rw [if_neg e];exact hk
theorem bef_total {p q:List Sf} (h:bef p q=true):bef q p=false:=by
  unfold bef at *
  by_cases e:dsP p=dsP q
  · rw [if_pos e] at h;rw [if_pos e.symm];exact lex_total _ _ h
  · rw [if_neg e] at h;rw [if_neg (fun e2=>e e2.symm)];exact lex_total _ _ h
theorem OL.refl {S:Sp} (p:List Sf):OL S p p:=.inr ⟨rfl,bef_irrefl p⟩
theorem OL.trans {S:Sp} {p q r:List Sf} (h:OL S p q) (k:OL S q r):OL S p r:=by
  rcases h with h|⟨h,h2⟩ <;> rcases k with k|⟨k,k2⟩
  · left;omega
  · left;omega
  · left;omega
  · exact .inr ⟨h.trans k,bef_trans h2 k2⟩
theorem winR_true {S:Sp} {p q:List Sf} (h:winR S p q=true):OL S p q:=by
  simp only[winR,Bool.or_eq_true,Bool.and_eq_true,decide_eq_true_eq] at h
  rcases h with h|⟨h,h2⟩
  · exact .inl h
  · exact .inr ⟨h,bef_total h2⟩
theorem winR_false {S:Sp} {p q:List Sf} (h:winR S p q=false):OL S q p:=by
  simp only[winR,Bool.or_eq_false_iff,Bool.and_eq_false_iff,decide_eq_false_iff_not] at h
  obtain ⟨h1,h2⟩:=h
  rcases Int.lt_or_le (takesP S q) (takesP S p) with h3|h3
  · exact .inl h3
  · have e:takesP S p=takesP S q:=by omega
    rcases h2 with h2|h2
    · exact absurd e h2
    · exact .inr ⟨e.symm,h2⟩
theorem fold_old {S:Sp} {f:Nat} (H:∀ y st,st.2=true→(searchR S f y st).2=true∧OL S (searchR S f y st).1 st.1):∀ (l:List Rf) (st:List Sf × Bool),st.2=true →
    (l.foldl (fun st y=>searchR S f y st) st).2=true∧OL S (l.foldl (fun st y=>searchR S f y st) st).1 st.1:=by
  intro l
  induction l with
  | nil=>exact fun st h=>⟨h,OL.refl _⟩
  | cons y l ihl =>
    intro st h
    simp only[List.foldl_cons]
    obtain ⟨a,b⟩:=H y st h
    obtain ⟨c,d⟩:=ihl _ a
    exact ⟨c,d.trans b⟩
theorem searchR_old {S:Sp}:∀ (f:Nat) (x:Rf) (st:List Sf × Bool),st.2=true→(searchR S f x st).2=true∧OL S (searchR S f x st).1 st.1:=by
  intro f
  induction f with
  | zero =>
    intro x st h
    simp only[searchR]
    split
    · rename_i hc
      rw [h] at hc
      exact ⟨rfl,winR_true (by simpa using hc)⟩
    · exact ⟨h,OL.refl _⟩
  | succ f ih =>
    intro x st h
    simp only[searchR]
    exact fold_old (fun y st h=>ih y st h) _ st h
def tgt (W:Nat→Nat) (T:Nat→Int) (n:Nat):List Sf:=(List.range n).map fun i=>⟨W i,T i⟩
theorem pAt_tgt {W:Nat→Nat} {T:Nat→Int} {n i:Nat} (h:i < n):pAt (tgt W T n) i=⟨W i,T i⟩:=by
  simp [pAt,tgt,List.getD_eq_getElem?_getD,h]
theorem plan_ext {p q:List Sf} (hl:p.length=q.length) (h:∀ i,i < p.length→pAt p i=pAt q i):p=q:=by
  apply List.ext_getElem hl
  intro i h1 h2
  have:=h i h1
  simpa [pAt,List.getD_eq_getElem?_getD,List.getElem?_eq_getElem,h1,h2] using this
theorem searchR_all {S:Sp} (hS:S.Ok) {W:Nat→Nat} {T:Nat→Int}:∀ (f:Nat) (x:Rf) (D:Dr) (st:List Sf × Bool),open_ D S.js.length=f→DAt S W T D→RR S W D x →
    (searchR S f x st).2=true∧OL S (searchR S f x st).1 (tgt W T S.js.length):=by
  intro f
  induction f with
  | zero =>
    intro x D st hf A R
    have hall:=open_zero _ hf
    have e:x.plan=tgt W T S.js.length:=plan_ext (by simp [tgt,R.pl]) (fun i hi=>by
      rw [R.pl] at hi
      rw [pAt_tgt hi,R.p i hi (hall i hi),A.day i hi (hall i hi)])
    simp only[searchR]
    split
    · exact ⟨rfl,by rw [e];exact OL.refl _⟩
    · rename_i hc
      simp only[Bool.or_eq_true,Bool.not_eq_true',not_or,Bool.not_eq_false,Bool.not_eq_true] at hc
      exact ⟨hc.1,by rw [← e];exact winR_false hc.2⟩
  | succ f ih =>
    intro x D st hf A R
    obtain ⟨i,hi,hp,hmin⟩:=exists_first (T:=T) (open_pos (x:=D) S.js.length (by omega))
    obtain ⟨A2,hl,hrd⟩:=A.put hS hi hp hmin
    obtain ⟨hwm,hcan,_⟩:=A.at_.val.w i hi
    have R2:=R.next hS A.sz hi hwm (W':=W) (fun _ _ _=>rfl) rfl
    have hk:withR S.js x i (W i) ∈ kidsR S x:=by
      refine mem_kidsR.2 ⟨i,W i,hi,hwm,?_⟩
      unfold kidR
      have h1:nextR S.js x i=true:=(R.ready hi).2 ⟨hp,hrd⟩
      have h2:(S.wk (W i)).can (S.j i).s=true:=hcan
      rw [h1,h2];rfl
    have ho:=open_with (js:=S.js) (w:=W i) hp S.js.length
    rw [if_pos hi] at ho
    simp only[searchR]
    generalize kidsR S x=l at hk
    induction l generalizing st with
    | nil=>cases hk
    | cons y l ihl =>
      simp only[List.foldl_cons]
      rcases List.mem_cons.1 hk with e|hk'
      · subst e
        obtain ⟨a,b⟩:=ih _ _ st (by omega) A2 R2
        obtain ⟨c,d⟩:=fold_old (fun y st h=>searchR_old f y st h) l _ a
        exact ⟨c,d.trans b⟩
      · exact ihl _ hk'
theorem searchR_one {S:Sp} (hS:S.Ok):∀ (f:Nat) (x:Rf) (D:Dr) (W:Nat→Nat) (st:List Sf × Bool),open_ D S.js.length=f→PAt S W D→Low S D→RR S W D x →
    searchR S f x st=st ∨ ((searchR S f x st).2=true∧VP S (searchR S f x st).1):=by
  intro f
  induction f with
  | zero =>
    intro x D W st hf P L R
    have hall:=open_zero _ hf
    simp only[searchR]
    split
    · right
      have e:x.plan=planOf W D S.js.length:=plan_ext (by simp [planOf,R.pl]) (fun i hi=>by
        rw [R.pl] at hi
        rw [pAt_planOf hi,R.p i hi (hall i hi)])
      exact ⟨rfl,by dsimp only;rw [e];exact P.vp hS L ((done_iff P.sz).2 hall)⟩
    · exact .inl rfl
  | succ f ih =>
    intro x D W st hf P L R
    simp only[searchR]
    have hk:∀ y ∈ kidsR S x,∀ st,searchR S f y st=st ∨ ((searchR S f y st).2=true∧VP S (searchR S f y st).1):=by
      intro y hy st
      obtain ⟨job,w,hj,hw,hs⟩:=mem_kidsR.1 hy
      unfold kidR at hs
      split at hs
      · rename_i hc
        simp only[Bool.and_eq_true] at hc
        cases hs
        have hr:=(R.ready hj).1 hc.1
        have ho:=open_with (js:=S.js) (w:=w) hr.1 S.js.length
        rw [if_pos hj] at ho
        refine ih _ _ (upd W job w) st (by omega) (P.next hS hj hw (readyD_of hr) hc.2) (L.next hS P hj hw hr.1) (R.next hS P.sz hj hw (fun i _ h=>upd_ne _ _ h) (upd_same _ _ _))
      · cases hs
    generalize kidsR S x=l at hk
    clear hf
    induction l generalizing st with
    | nil=>exact .inl rfl
    | cons y l ihl =>
      simp only[List.foldl_cons]
      rcases hk y (by simp) st with h|h
      · rw [h];exact ihl _ (fun y' hy'=>hk y' (by simp [hy']))
      · rcases ihl (searchR S f y st) (fun y' hy'=>hk y' (by simp [hy'])) with h2|h2
        · rw [h2];exact .inr h
        · exact .inr h2
theorem getD_repB (n k:Nat):(List.replicate n false).getD k false=false:=by
  rw [List.getD_eq_getElem?_getD,List.getElem?_replicate];split <;> rfl
theorem RR.start (S:Sp) (W:Nat→Nat):RR S W dr0 (rf0 S):=by
  refine ⟨by simp [rf0],fun i _ h=>by simp [dr0] at h,by simp [rf0],fun i hi=>?_,by simp [rf0],fun w hw=>?_,rfl⟩
  · show (List.replicate _ false).getD i false=_
    rw [getD_repB];simp [dr0]
  · show (List.replicate _ (0:Int)).getD w 0=(List.replicate 4 (0:Int)).getD w 0
    rw [getD_rep,getD_rep]
theorem bestR_ok {S:Sp} (hS:S.Ok) (hM:Manned S):BestOk S (bestR S) (takesP S (bestR S)):=by
  have hall:∀ W T,S.sch.Val W T→∃ T',S.sch.Val W T'∧(∀ i,i < S.js.length→T' i≤T i)∧(searchR S S.js.length (rf0 S) (List.replicate S.js.length ⟨0,0⟩,false)).2=true∧OL S (bestR S) (tgt W T' S.js.length):=by
    intro W T hv
    obtain ⟨T',a,b,c⟩:=Sch.Val.tight hS.d (tot T S.sch.n) T (Nat.le_refl _) hv
    have:=searchR_all hS S.js.length (rf0 S) dr0 (List.replicate S.js.length ⟨0,0⟩,false) (open_dr0 _) (DAt.start a b) (RR.start S W)
    exact ⟨T',a,c,this.1,this.2⟩
  obtain ⟨W0,T0,hv0⟩:=hM.val hS
  obtain ⟨_,_,_,h2,_⟩:=hall W0 T0 hv0
  have hvp:VP S (bestR S):=by
    rcases searchR_one hS S.js.length (rf0 S) dr0 (fun _=>0) (List.replicate S.js.length ⟨0,0⟩,false) (open_dr0 _) (PAt.start S _) (Low.start S) (RR.start S _) with h|h
    · rw [h] at h2;simp at h2
    · exact h.2
  refine ⟨hvp,rfl,fun q hq=>?_⟩
  obtain ⟨T',hv,hle,_,hO⟩:=hall _ _ (hq.val hS)
  have hl:(tgt (fun i=>(pAt q i).w.toNat) T' S.js.length).length=S.js.length:=by simp [tgt]
  have hO2:OL S (tgt (fun i=>(pAt q i).w.toNat) T' S.js.length) q:=by
    have ht:takesP S (tgt (fun i=>(pAt q i).w.toNat) T' S.js.length)≤takesP S q:=by
      rcases takesTo_cases (js:=S.js) (p:=tgt (fun i=>(pAt q i).w.toNat) T' S.js.length) S.js.length with e|⟨i,hi,e⟩
      · unfold takesP;rw [e];exact takesTo_nonneg _
      · unfold takesP;rw [e,pAt_tgt hi]
        have h1:=hle i hi
        have h2:=takesTo_ge (js:=S.js) (p:=q) hi
        dsimp only
        omega
    rcases Int.lt_or_le (takesP S (tgt (fun i=>(pAt q i).w.toNat) T' S.js.length)) (takesP S q) with h|h
    · exact .inl h
    · refine .inr ⟨by omega,?_⟩
      unfold bef
      split
      · rename_i e
        have:q=tgt (fun i=>(pAt q i).w.toNat) T' S.js.length:=by
          refine plan_ext (by rw [hl,hq.len]) (fun i hi=>?_)
          rw [hq.len] at hi
          rw [pAt_tgt hi]
          have h7:∀ l:List Sf,(dsP l).getD i 0=(pAt l i).d:=fun l=>by
            simp only[dsP,pAt,List.getD_eq_getElem?_getD,List.getElem?_map]
            cases l[i]? <;> rfl
          have h8:=h7 q
          rw [e,h7,pAt_tgt hi] at h8
          have h9:=(hq.w i hi).1
          cases hx:pAt q i with
          | mk a b =>
            rw [hx] at h8 h9
            dsimp only at h8 h9 ⊢
            congr 1
            · omega
            · exact h8.symm
        rw [← this];exact lex_irrefl _
      · refine lex_pw _ _ (by simp [dsP,hl,hq.len]) fun i=>?_
        by_cases hi:i < S.js.length
        · have h6:(dsP (tgt (fun i=>(pAt q i).w.toNat) T' S.js.length)).getD i 0=T' i:=by
            simp [dsP,tgt,List.getD_eq_getElem?_getD,hi]
          have h7:(dsP q).getD i 0=(pAt q i).d:=by
            simp only[dsP,pAt,List.getD_eq_getElem?_getD,List.getElem?_map]
            cases q[i]? <;> rfl
          rw [h6,h7];exact hle i hi
        · rw [List.getD_eq_getElem?_getD,List.getElem?_eq_none (by simp [dsP,tgt];omega)]
          rw [List.getD_eq_getElem?_getD,List.getElem?_eq_none (by simp [dsP,hq.len];omega)]
          exact Int.le_refl _
  exact hO.trans hO2
theorem bestD_bestR {S:Sp} (hS:S.Ok) (hM:Manned S):(bestD S).1=bestR S∧(bestD S).2=takesP S (bestR S):=(bestD_ok hS hM).uniq (bestR_ok hS hM)
def fsum (js:List Jb) (f:Int):Nat→Int
  | 0=>0
  | i+1=>fsum js f i+if (jOf js i).f=f then (jOf js i).d else 0
def inSet (s:Int) (set:Nat):Bool:=set.testBit (s - 1).toNat
def Wk.has (w:Wk) (set:Nat):Bool:=(w.a && set.testBit 0) || (w.b && set.testBit 1) || (w.c && set.testBit 2)
def wsum (js:List Jb) (set:Nat):Nat→Int
  | 0=>0
  | i+1=>wsum js set i+if inSet (jOf js i).s set then (jOf js i).d else 0
def wOf (ws:List Wk) (i:Nat):Wk:=ws.getD i ⟨false,false,false⟩
def hcnt (ws:List Wk) (set:Nat):Nat→Int
  | 0=>0
  | i+1=>hcnt ws set i+if (wOf ws i).has set then 1 else 0
def ceilD (n m:Int):Int:=(n+m - 1).tdiv m
def bndD (S:Sp) (b:Int):Nat→Int
  | 0=>b
  | k+1=>if 0 < wsum S.js k S.js.length then max (bndD S b k) (ceilD (wsum S.js k S.js.length) (hcnt S.ws k S.ws.length)) else bndD S b k
def boundD (S:Sp):Int:=bndD S (maxL ((List.range 7).map fun f=>fsum S.js (f:Nat) S.js.length)) 8
def skBit (s:Int):Nat:=2 ^ (s - 1).toNat
def lackD (S:Sp):Bool:=(List.range S.js.length).any fun i=>decide (hcnt S.ws (skBit (S.j i).s) S.ws.length=0)
theorem hcnt_nonneg (ws:List Wk) (set:Nat):∀ n,0≤hcnt ws set n∧hcnt ws set n≤n:=by
  intro n
  induction n with
  | zero=>simp [hcnt]
  | succ n ih=>simp only[hcnt];split <;> omega
theorem hcnt_pos {ws:List Wk} {set:Nat} {w:Nat}:∀ {n},w < n→(wOf ws w).has set=true→1≤hcnt ws set n:=by
  intro n
  induction n with
  | zero=>intro h;omega
  | succ n ih =>
    intro h hw
    simp only[hcnt]
    have:=hcnt_nonneg ws set n
    by_cases e:w=n
    · subst e;rw [if_pos hw];omega
    · have:=ih (by omega) hw
      split <;> omega
theorem hcnt_zero {ws:List Wk} {set:Nat}:∀ {n},hcnt ws set n ≠ 0→∃ w,w < n∧(wOf ws w).has set=true:=by
  intro n
  induction n with
  | zero=>intro h;exact absurd rfl h
  | succ n ih =>
    intro h
    simp only[hcnt] at h
    by_cases hw:(wOf ws n).has set=true
    · exact ⟨n,by omega,hw⟩
    · rw [if_neg hw] at h
      obtain ⟨w,a,b⟩:=ih (by omega)
      exact ⟨w,by omega,b⟩
theorem has_can (w:Wk) {s:Int} (h:1≤s∧s≤3):w.has (skBit s)=w.can s:=by
  have:s=1 ∨ s=2 ∨ s=3:=by omega
  rcases this with rfl|rfl|rfl <;> cases w with|mk a b c=>cases a <;> cases b <;> cases c <;> rfl
theorem lack_iff {S:Sp} (hS:S.Ok):lackD S=false ↔ Manned S:=by
  unfold lackD
  simp only[List.any_eq_false,List.mem_range,decide_eq_true_eq]
  constructor
  · intro h i hi
    obtain ⟨w,a,b⟩:=hcnt_zero (h i hi)
    refine ⟨w,a,?_⟩
    have hj:=hS.j hi
    rw [has_can _ ⟨hj.2.2.1,hj.2.2.2.1⟩] at b
    exact b
  · intro h i hi e
    obtain ⟨w,a,b⟩:=h i hi
    have hj:=hS.j hi
    have:=hcnt_pos (ws:=S.ws) (set:=skBit (S.j i).s) a (by rw [has_can _ ⟨hj.2.2.1,hj.2.2.2.1⟩];exact b)
    omega
theorem inSet_has {w:Wk} {s:Int} {set:Nat} (hs:1≤s∧s≤3) (h:inSet s set=true) (hc:w.can s=true):w.has set=true:=by
  have:s=1 ∨ s=2 ∨ s=3:=by omega
  rcases this with rfl|rfl|rfl <;> simp_all [inSet,Wk.has,Wk.can]
theorem wsum_nonneg {S:Sp} (hS:S.Ok) (set:Nat):∀ n,n≤S.js.length→0≤wsum S.js set n∧wsum S.js set n≤30 * n:=by
  intro n
  induction n with
  | zero=>intro _;simp [wsum]
  | succ n ih =>
    intro hn
    have:=ih (by omega)
    have hj:=hS.j (show n < S.js.length by omega)
    have e:S.j n=jOf S.js n:=rfl
    rw [e] at hj
    unfold Jb.Ok at hj
    simp only[wsum]
    split <;> omega
theorem fsum_nonneg {S:Sp} (hS:S.Ok) (f:Int):∀ n,n≤S.js.length→0≤fsum S.js f n∧fsum S.js f n≤30 * n:=by
  intro n
  induction n with
  | zero=>intro _;simp [fsum]
  | succ n ih =>
    intro hn
    have:=ih (by omega)
    have hj:=hS.j (show n < S.js.length by omega)
    have e:S.j n=jOf S.js n:=rfl
    rw [e] at hj
    unfold Jb.Ok at hj
    simp only[fsum]
    split <;> omega
theorem wsum_pos {js:List Jb} {set:Nat}:∀ {n},0 < wsum js set n→∃ i,i < n∧inSet (jOf js i).s set=true:=by
  intro n
  induction n with
  | zero=>intro h;simp [wsum] at h
  | succ n ih =>
    intro h
    simp only[wsum] at h
    by_cases hs:inSet (jOf js n).s set=true
    · exact ⟨n,by omega,hs⟩
    · rw [if_neg hs] at h
      obtain ⟨i,a,b⟩:=ih (by omega)
      exact ⟨i,by omega,b⟩
theorem Manned.hands {S:Sp} (hS:S.Ok) (hM:Manned S) {set:Nat} (h:0 < wsum S.js set S.js.length):1≤hcnt S.ws set S.ws.length:=by
  obtain ⟨i,hi,hs⟩:=wsum_pos h
  obtain ⟨w,a,b⟩:=hM i hi
  have hj:=hS.j hi
  exact hcnt_pos a (inSet_has ⟨hj.2.2.1,hj.2.2.2.1⟩ hs b)
def fbR (S:Sp):Nat→Int
  | 0=>0
  | f+1=>max (fbR S f) (fsum S.js (f:Nat) S.js.length)
def bndR (S:Sp):Nat→Option Int
  | 0=>some (fbR S 7)
  | k+1=>match bndR S k with
    | none=>none
    | some b =>
      if 0 < wsum S.js (k+1) S.js.length∧hcnt S.ws (k+1) S.ws.length=0 then none else
      if 0 < wsum S.js (k+1) S.js.length then some (max b (ceilD (wsum S.js (k+1) S.js.length) (hcnt S.ws (k+1) S.ws.length))) else some b
theorem fbR_max {S:Sp} (hS:S.Ok):maxL ((List.range 7).map fun f=>fsum S.js (f:Nat) S.js.length)=fbR S 7:=by
  have h:=fun f:Int=>(fsum_nonneg hS f S.js.length (Nat.le_refl _)).1
  have h0:=h 0;have h1:=h 1;have h2:=h 2;have h3:=h 3;have h4:=h 4;have h5:=h 5;have h6:=h 6
  simp only[maxL,fbR,List.range,List.range.loop,List.map_cons,List.map_nil,List.foldl_cons,List.foldl_nil]
  have e0:((0:Nat):Int)=0:=rfl
  rw [e0,Int.max_eq_right h0]
theorem wsum_zero (js:List Jb):∀ n,wsum js 0 n=0:=by
  intro n
  induction n with
  | zero=>rfl
  | succ n ih=>simp [wsum,ih,inSet]
theorem bnd_eq {S:Sp} (hS:S.Ok) (hM:Manned S):∀ k,bndR S k=some (bndD S (fbR S 7) (k+1)):=by
  intro k
  induction k with
  | zero=>simp [bndR,bndD,wsum_zero]
  | succ k ih =>
    rw [bndR,ih]
    dsimp only
    by_cases h:0 < wsum S.js (k+1) S.js.length
    · have:=hM.hands hS h
      rw [if_neg (by omega),if_pos h]
      have e:bndD S (fbR S 7) (k+1+1)=max (bndD S (fbR S 7) (k+1)) (ceilD (wsum S.js (k+1) S.js.length) (hcnt S.ws (k+1) S.ws.length)):=by
        rw [bndD,if_pos h]
      rw [e]
    · rw [if_neg (by omega),if_neg h]
      have e:bndD S (fbR S 7) (k+1+1)=bndD S (fbR S 7) (k+1):=by rw [bndD,if_neg h]
      rw [e]
theorem bndR_none {S:Sp} {k:Nat} (hk:0 < wsum S.js (k+1) S.js.length) (hh:hcnt S.ws (k+1) S.ws.length=0):∀ n,k < n→bndR S n=none:=by
  intro n
  induction n with
  | zero=>intro h;omega
  | succ n ih =>
    intro h
    rw [bndR]
    by_cases e:k=n
    · subst e
      cases bndR S k with
      | none=>rfl
      | some b=>dsimp only;rw [if_pos ⟨hk,hh⟩]
    · rw [ih (by omega)]
theorem wsum_ge {S:Sp} (hS:S.Ok) {set i:Nat}:∀ {n},n≤S.js.length→i < n→inSet (S.j i).s set=true→(S.j i).d≤wsum S.js set n:=by
  intro n
  induction n with
  | zero=>intro _ h;omega
  | succ n ih =>
    intro hn h hs
    simp only[wsum]
    have h0:=(wsum_nonneg hS set n (by omega)).1
    have hj:=hS.j (show n < S.js.length by omega)
    have e2:S.j n=jOf S.js n:=rfl
    rw [e2] at hj
    unfold Jb.Ok at hj
    by_cases e:i=n
    · subst e
      rw [e2] at hs ⊢
      rw [if_pos hs];omega
    · have:=ih (by omega) (by omega) hs
      split <;> omega
theorem bound_eq {S:Sp} (hS:S.Ok):bndR S 7=if lackD S=true then none else some (boundD S):=by
  by_cases hL:lackD S=true
  · rw [if_pos hL]
    have hnm:¬ Manned S:=fun h=>by rw [(lack_iff hS).2 h] at hL;cases hL
    have hex:∃ i,i < S.js.length∧∀ w,w < S.ws.length→(S.wk w).can (S.j i).s=false:=by
      apply Classical.byContradiction
      intro hno
      refine hnm fun i hi=>?_
      apply Classical.byContradiction
      intro h2
      refine hno ⟨i,hi,fun w hw=>?_⟩
      cases hc:(S.wk w).can (S.j i).s with
      | false=>rfl
      | true=>exact absurd ⟨w,hw,hc⟩ h2
    obtain ⟨i,hi,hc⟩:=hex
    have hj:=hS.j hi
    unfold Jb.Ok at hj
    have hb:∃ k,k < 7∧k+1=skBit (S.j i).s∧inSet (S.j i).s (k+1)=true:=by
      have:(S.j i).s=1 ∨ (S.j i).s=2 ∨ (S.j i).s=3:=by omega
      rcases this with e|e|e <;> rw [e]
      · exact ⟨0,by omega,rfl,rfl⟩
      · exact ⟨1,by omega,rfl,rfl⟩
      · exact ⟨3,by omega,rfl,rfl⟩
    obtain ⟨k,hk,e,hin⟩:=hb
    refine bndR_none (k:=k) ?_ ?_ 7 hk
    · have:=wsum_ge hS (Nat.le_refl _) hi hin;omega
    · apply Classical.byContradiction
      intro h2
      obtain ⟨w,hw,hh⟩:=hcnt_zero h2
      rw [e,has_can _ ⟨hj.2.2.1,hj.2.2.2.1⟩] at hh
      have:=hc w hw
      have e3:S.wk w=wOf S.ws w:=rfl
      rw [e3,hh] at this
      cases this
  · have hM:=(lack_iff hS).1 (by simpa using hL)
    rw [if_neg hL,bnd_eq hS hM 7]
    unfold boundD
    rw [fbR_max hS]
end Go.Proofs.YtaijkalhkgjakaaDoor

namespace Go.Proofs.YtaijkalhkgjakaaDoor
open Go.Av
attribute [local irreducible] thenA blockA awp awpOps awpD awp1
set_option maxHeartbeats 8000000
set_option maxRecDepth 20000
def Wk.row (x:Wk):List AV:=[.bool x.a,.bool x.b,.bool x.c]
@[go_sem] theorem Wk.row_eq (x:Wk):x.row=[.bool x.a,.bool x.b,.bool x.c]:=rfl
def Jb.row (x:Jb):List AV:=[.int .i64 x.f,.int .i64 x.s,.int .i64 x.d]
@[go_sem] theorem Jb.row_eq (x:Jb):x.row=[.int .i64 x.f,.int .i64 x.s,.int .i64 x.d]:=rfl
def Sf.row (x:Sf):List AV:=[.int .i64 x.w,.int .i64 x.d]
@[go_sem] theorem Sf.row_eq (x:Sf):x.row=[.int .i64 x.w,.int .i64 x.d]:=rfl
def Sp.av (S:Sp):AV:=.agg [.lst 3 (S.ws.map Wk.row),.lst 3 (S.js.map Jb.row)]
@[go_sem] theorem Sp.av_eq (S:Sp):S.av=.agg [.lst 3 (S.ws.map Wk.row),.lst 3 (S.js.map Jb.row)]:=rfl
@[go_sem] theorem wrow_getD {l:List Wk} {i:Nat} (h:i < l.length):(l.map Wk.row).getD i []=(wOf l i).row:=by
  simp [List.getD_eq_getElem?_getD,h,wOf]
@[go_sem] theorem jrow_getD {l:List Jb} {i:Nat} (h:i < l.length):(l.map Jb.row).getD i []=(jOf l i).row:=by
  simp [List.getD_eq_getElem?_getD,h,jOf]
@[go_sem] theorem srow_getD {l:List Sf} {i:Nat} (h:i < l.length):(l.map Sf.row).getD i []=(pAt l i).row:=by
  simp [List.getD_eq_getElem?_getD,h,pAt]
theorem c84 (lo hi:Int) (es:List Int) (hl:(es.length:Int) < 1000000):Pure Tryd.prog 84 [.int .i64 lo,.int .i64 hi,.lst 1 (es.map iv)] (fun v=>v=.bool (allIn lo hi es)):=by
  intro h
  refine ACalls.forget (ACalls.of tab mixed Tryd.call84 Tryd.func84 rfl (fi:=⟨24,[],[],none,[]⟩) rfl rfl (Nat.le_of_ble_eq_true rfl) (by decide) ?_)
  unfold startA
  repeat' (first|refine st_seq_reg rfl (by first|(simp only[go_sem];rfl)|rfl) (by first|(simp only[go_sem];rfl)|rfl) ?_|refine st_op ?_|refine st_det rfl (by simp (disch:=omega) only[go_sem,wr_i64,if_yes,if_no,↓reduceIte,reduceAdd,reduceMul,reduceEqDiff,Nat.reduceBEq,reduceLeDiff];rfl) ?_|refine st_nil ?_|refine st_seq ?_|refine st_block ?_)
  refine st_loopC (α:=Nat) tab mixed [] [] (by repeat (first|exact trivial|refine ⟨rfl,?_⟩)) [] [] (by repeat (first|exact trivial|refine ⟨rfl,?_⟩)) (fun i=>[(11,.int .i64 i)]) [(0,_),(1,_),(6,_),(9,_),(10,_)] (fun _=>[]) [] (fun i=>i≤es.length∧allIn lo hi (es.drop i)=allIn lo hi es) (fun i=>es.length - i) (by decide) 0 ⟨by omega,rfl⟩ (by (try simp only[go_sem]);repeat' (first|exact trivial|refine And.intro ?_ ?_|rfl|(simp (disch:=omega) only[go_sem,if_yes,if_no,↓reduceIte,reduceAdd,reduceMul,reduceEqDiff,Nat.reduceBEq,reduceLeDiff];rfl)|(simp (disch:=omega) only[go_sem,if_yes,if_no,↓reduceIte,reduceAdd,reduceMul,reduceEqDiff,Nat.reduceBEq,reduceLeDiff]))) (by (try simp only[go_sem]);repeat' (first|exact trivial|refine And.intro ?_ ?_|rfl|(simp (disch:=omega) only[go_sem,if_yes,if_no,↓reduceIte,reduceAdd,reduceMul,reduceEqDiff,Nat.reduceBEq,reduceLeDiff];rfl)|(simp (disch:=omega) only[go_sem,if_yes,if_no,↓reduceIte,reduceAdd,reduceMul,reduceEqDiff,Nat.reduceBEq,reduceLeDiff]))) (by first|(simp only[go_sem];rfl)|rfl) (by intro n;simp only[go_sem];rfl) ?_
  rintro i c ⟨hi',hall⟩ hc
  simp only[go_sem]
  repeat' (first|refine st_seq_reg rfl (by first|(simp only[go_sem];rfl)|rfl) (by first|(simp only[go_sem];rfl)|rfl) ?_|refine st_reg rfl (by first|(simp only[go_sem];rfl)|rfl) (by first|(simp only[go_sem];rfl)|rfl) ?_|refine st_op ?_|refine st_det rfl (by simp (disch:=omega) only[go_sem,wr_i64,if_yes,if_no,↓reduceIte,reduceAdd,reduceMul,reduceEqDiff,Nat.reduceBEq,reduceLeDiff];rfl) ?_|refine st_gT rfl rfl rfl ?_|refine st_gF rfl rfl rfl ?_|(refine st_gS rfl rfl ?_ ?_ <;> intro hg <;> (try simp only[decide_eq_true_eq,decide_eq_false_iff_not,Bool.not_eq_true',Bool.not_eq_false'] at hg))|refine st_condT rfl ?_|(refine st_condS rfl ?_ ?_ <;> intro hg <;> (try simp only[decide_eq_true_eq,decide_eq_false_iff_not,Bool.not_eq_true',Bool.not_eq_false'] at hg))|refine st_nil ?_|refine st_tN ?_|refine st_seq ?_|refine st_block ?_|refine st_skip ?_|refine st_exit ?_|refine st_ret ?_|refine st_tE ?_|refine st_tR ?_|refine st_bN ?_|refine st_bR ?_|refine st_bH ?_)
  · simp (disch:=omega) only[AEnd,Tryd.results84,aresK,fin,go_sem,↓reduceIte,reduceEqDiff,reduceAdd,reduceLeDiff,if_yes,if_no,implies_true,true_and,and_true,List.reverse_cons,List.reverse_nil]
    rw [← hall,drop_getD 0 (by omega)];simp [allIn,-List.getD_eq_getElem?_getD];omega
  · simp (disch:=omega) only[AEnd,Tryd.results84,aresK,fin,go_sem,↓reduceIte,reduceEqDiff,reduceAdd,reduceLeDiff,if_yes,if_no,implies_true,true_and,and_true,List.reverse_cons,List.reverse_nil]
    rw [← hall,drop_getD 0 (by omega)];simp [allIn,-List.getD_eq_getElem?_getD];omega
  · refine ⟨i+1,⟨by omega,by rw [← hall,drop_getD 0 (by omega:i < es.length)];simp [allIn,-List.getD_eq_getElem?_getD];omega⟩,by omega,(by repeat' (first|exact trivial|refine And.intro ?_ ?_|rfl|(simp (disch:=omega) only[go_sem,if_yes,if_no,↓reduceIte,reduceAdd,reduceMul,reduceEqDiff,Nat.reduceBEq,reduceLeDiff];rfl)|(simp (disch:=omega) only[go_sem,if_yes,if_no,↓reduceIte,reduceAdd,reduceMul,reduceEqDiff,Nat.reduceBEq,reduceLeDiff]))),(by repeat' (first|exact trivial|refine And.intro ?_ ?_|rfl|(simp (disch:=omega) only[go_sem,if_yes,if_no,↓reduceIte,reduceAdd,reduceMul,reduceEqDiff,Nat.reduceBEq,reduceLeDiff];rfl)|(simp (disch:=omega) only[go_sem,if_yes,if_no,↓reduceIte,reduceAdd,reduceMul,reduceEqDiff,Nat.reduceBEq,reduceLeDiff]))),rfl,(by first|exact HOld.of _ (by omega)|exact HOld.put _ _ _ (by omega))⟩
  · simp (disch:=omega) only[AEnd,Tryd.results84,aresK,fin,go_sem,↓reduceIte,reduceEqDiff,reduceAdd,reduceLeDiff,if_yes,if_no,implies_true,true_and,and_true,List.reverse_cons,List.reverse_nil]
    rw [← hall,List.drop_eq_nil_of_le (by omega)];rfl
theorem c84a (lo hi a:Int):Pure Tryd.prog 84 [.int .i64 lo,.int .i64 hi,.lst 1 [[.int .i64 a]]] (fun v=>v=.bool (decide (lo≤a∧a≤hi))):=by
  have h:=c84 lo hi [a] (by simp)
  have e:allIn lo hi [a]=decide (lo≤a∧a≤hi):=by simp [allIn]
  rw [e] at h;exact h
theorem c113 (x:Wk):Pure Tryd.prog 113 [.agg x.row] (fun v=>v=.int .i64 (if x.a then 1 else 0)):=by
  intro h
  refine ACalls.forget (ACalls.of tab mixed Tryd.call113 Tryd.func113 rfl (fi:=⟨5,[],[1],none,[]⟩) rfl rfl (Nat.le_of_ble_eq_true rfl) (by decide) ?_)
  unfold startA
  simp only[go_sem]
  repeat' (first|refine st_seq_reg rfl (by first|(simp only[go_sem];rfl)|rfl) (by first|(simp only[go_sem];rfl)|rfl) ?_|refine st_op ?_|refine st_det rfl (by simp (disch:=omega) only[go_sem,wr_i64,if_yes,if_no,↓reduceIte,reduceAdd,reduceMul,reduceEqDiff,Nat.reduceBEq,reduceLeDiff];rfl) ?_|(refine st_condS rfl ?_ ?_ <;> intro hg <;> (try simp only[decide_eq_true_eq,decide_eq_false_iff_not,Bool.not_eq_true',Bool.not_eq_false'] at hg))|refine st_nil ?_|refine st_tN ?_|refine st_seq ?_|refine st_skip ?_|refine st_ret ?_|refine st_tR ?_)
  all_goals
    simp (disch:=omega) only[AEnd,Tryd.results113,aresK,fin,go_sem,↓reduceIte,reduceEqDiff,reduceAdd,reduceLeDiff,if_yes,if_no,implies_true,true_and,and_true,List.reverse_cons,List.reverse_nil]
    try simp [*]
theorem c114 (x:Wk):Pure Tryd.prog 114 [.agg x.row] (fun v=>v=.int .i64 (if x.b then 2 else 0)):=by
  intro h
  refine ACalls.forget (ACalls.of tab mixed Tryd.call114 Tryd.func114 rfl (fi:=⟨5,[],[1],none,[]⟩) rfl rfl (Nat.le_of_ble_eq_true rfl) (by decide) ?_)
  unfold startA
  simp only[go_sem]
  repeat' (first|refine st_seq_reg rfl (by first|(simp only[go_sem];rfl)|rfl) (by first|(simp only[go_sem];rfl)|rfl) ?_|refine st_op ?_|refine st_det rfl (by simp (disch:=omega) only[go_sem,wr_i64,if_yes,if_no,↓reduceIte,reduceAdd,reduceMul,reduceEqDiff,Nat.reduceBEq,reduceLeDiff];rfl) ?_|(refine st_condS rfl ?_ ?_ <;> intro hg <;> (try simp only[decide_eq_true_eq,decide_eq_false_iff_not,Bool.not_eq_true',Bool.not_eq_false'] at hg))|refine st_nil ?_|refine st_tN ?_|refine st_seq ?_|refine st_skip ?_|refine st_ret ?_|refine st_tR ?_)
  all_goals
    simp (disch:=omega) only[AEnd,Tryd.results114,aresK,fin,go_sem,↓reduceIte,reduceEqDiff,reduceAdd,reduceLeDiff,if_yes,if_no,implies_true,true_and,and_true,List.reverse_cons,List.reverse_nil]
    try simp [*]
theorem c115 (x:Wk):Pure Tryd.prog 115 [.agg x.row] (fun v=>v=.int .i64 (if x.c then 4 else 0)):=by
  intro h
  refine ACalls.forget (ACalls.of tab mixed Tryd.call115 Tryd.func115 rfl (fi:=⟨5,[],[1],none,[]⟩) rfl rfl (Nat.le_of_ble_eq_true rfl) (by decide) ?_)
  unfold startA
  simp only[go_sem]
  repeat' (first|refine st_seq_reg rfl (by first|(simp only[go_sem];rfl)|rfl) (by first|(simp only[go_sem];rfl)|rfl) ?_|refine st_op ?_|refine st_det rfl (by simp (disch:=omega) only[go_sem,wr_i64,if_yes,if_no,↓reduceIte,reduceAdd,reduceMul,reduceEqDiff,Nat.reduceBEq,reduceLeDiff];rfl) ?_|(refine st_condS rfl ?_ ?_ <;> intro hg <;> (try simp only[decide_eq_true_eq,decide_eq_false_iff_not,Bool.not_eq_true',Bool.not_eq_false'] at hg))|refine st_nil ?_|refine st_tN ?_|refine st_seq ?_|refine st_skip ?_|refine st_ret ?_|refine st_tR ?_)
  all_goals
    simp (disch:=omega) only[AEnd,Tryd.results115,aresK,fin,go_sem,↓reduceIte,reduceEqDiff,reduceAdd,reduceLeDiff,if_yes,if_no,implies_true,true_and,and_true,List.reverse_cons,List.reverse_nil]
    try simp [*]
def Wk.sk (x:Wk):Int:=(if x.a then 1 else 0)+(if x.b then 2 else 0)+(if x.c then 4 else 0)
def skF (x:Wk) (i:Nat):Int:=if i=0 then (if x.a then 1 else 0) else if i=1 then (if x.b then 2 else 0) else (if x.c then 4 else 0)
def skN (x:Wk):Nat→Int
  | 0=>0
  | i+1=>bitop .or .i64 (skN x i) (skF x i)
theorem skN3 (x:Wk):skN x 3=x.sk:=by
  cases x with|mk a b c=>cases a <;> cases b <;> cases c <;> decide
def fnAt (i:Nat):FuncId:=if i=0 then 113 else if i=1 then 114 else 115
theorem cfn (x:Wk) (i:Nat) (hi:i < 3):Pure Tryd.prog (fnAt i) [.agg x.row] (fun v=>v=.int .i64 (skF x i)):=by
  have:i=0 ∨ i=1 ∨ i=2:=by omega
  rcases this with rfl|rfl|rfl
  · exact c113 x
  · exact c114 x
  · exact c115 x
theorem fn_getD {i:Nat} (hi:i < 3):([[.fn (.func 113) [] []],[.fn (.func 114) [] []],[.fn (.func 115) [] []]]:List (List AV)).getD i []=[.fn (.func (fnAt i)) [] []]:=by
  have:i=0 ∨ i=1 ∨ i=2:=by omega
  rcases this with rfl|rfl|rfl <;> rfl
theorem c90 (x:Wk):Pure Tryd.prog 90 [.agg x.row] (fun v=>v=.int .i64 x.sk):=by
  intro h
  refine ACalls.forget (ACalls.of tab mixed Tryd.call90 Tryd.func90 rfl (fi:=⟨19,[],[1,6],none,[]⟩) rfl rfl (Nat.le_of_ble_eq_true rfl) (by decide) ?_)
  unfold startA
  simp only[go_sem]
  repeat' (first|refine st_seq_reg rfl (by first|(simp only[go_sem];rfl)|rfl) (by first|(simp only[go_sem];rfl)|rfl) ?_|refine st_op ?_|refine st_det rfl (by simp (disch:=omega) only[go_sem,wr_i64,if_yes,if_no,↓reduceIte,reduceAdd,reduceMul,reduceEqDiff,Nat.reduceBEq,reduceLeDiff];rfl) ?_|refine st_nil ?_|refine st_seq ?_|refine st_block ?_)
  refine st_loopC (α:=Nat) tab mixed [] [] (by repeat (first|exact trivial|refine ⟨rfl,?_⟩)) [] [] (by repeat (first|exact trivial|refine ⟨rfl,?_⟩)) (fun i=>[(8,.int .i64 i),(3,.int .i64 (skN x i))]) [(1,_),(2,_),(6,_),(7,_)] (fun _=>[]) [] (fun i=>i≤3) (fun i=>3 - i) (by decide) 0 (by omega) (by (try simp only[go_sem]);repeat' (first|exact trivial|refine And.intro ?_ ?_|rfl|(simp (disch:=omega) only[go_sem,if_yes,if_no,↓reduceIte,reduceAdd,reduceMul,reduceEqDiff,Nat.reduceBEq,reduceLeDiff];rfl)|(simp (disch:=omega) only[go_sem,if_yes,if_no,↓reduceIte,reduceAdd,reduceMul,reduceEqDiff,Nat.reduceBEq,reduceLeDiff]))) (by (try simp only[go_sem]);repeat' (first|exact trivial|refine And.intro ?_ ?_|rfl|(simp (disch:=omega) only[go_sem,if_yes,if_no,↓reduceIte,reduceAdd,reduceMul,reduceEqDiff,Nat.reduceBEq,reduceLeDiff];rfl)|(simp (disch:=omega) only[go_sem,if_yes,if_no,↓reduceIte,reduceAdd,reduceMul,reduceEqDiff,Nat.reduceBEq,reduceLeDiff]))) (by first|(simp only[go_sem];rfl)|rfl) (by intro n;simp only[go_sem];rfl) ?_
  rintro i c hi' hc
  simp only[go_sem]
  have hf:i < 3→_:=fn_getD
  repeat' (first|refine st_seq_reg rfl (by first|(simp only[go_sem,fn_getD];rfl)|rfl) (by first|(simp only[go_sem,fn_getD];rfl)|rfl) ?_|refine st_reg rfl (by first|(simp only[go_sem,fn_getD];rfl)|rfl) (by first|(simp only[go_sem,fn_getD];rfl)|rfl) ?_|refine st_op ?_|refine st_det rfl (by simp (disch:=omega) only[go_sem,wr_i64,if_yes,if_no,↓reduceIte,reduceAdd,reduceMul,reduceEqDiff,Nat.reduceBEq,reduceLeDiff,fn_getD];rfl) ?_|(refine st_pureV (by first|(simp only[go_sem,fn_getD];rfl)|rfl) (by first|(simp (disch:=omega) only[go_sem,fn_getD];rfl)|rfl) rfl (cfn x i (by omega)) (by first|(simp only[go_sem,fn_getD];rfl)|rfl) (by intro n;first|(simp (disch:=omega) only[go_sem];rfl)|rfl) ?_;intro v n hv hn;subst hv)|(refine st_condS rfl ?_ ?_ <;> intro hg <;> (try simp only[decide_eq_true_eq,decide_eq_false_iff_not,Bool.not_eq_true',Bool.not_eq_false'] at hg))|refine st_nil ?_|refine st_tN ?_|refine st_seq ?_|refine st_block ?_|refine st_skip ?_|refine st_exit ?_|refine st_ret ?_|refine st_tE ?_|refine st_bN ?_|refine st_bH ?_)
  · refine ⟨i+1,(by omega),by omega,(by repeat' (first|exact trivial|refine And.intro ?_ ?_|rfl|(simp (disch:=omega) only[go_sem,if_yes,if_no,↓reduceIte,reduceAdd,reduceMul,reduceEqDiff,Nat.reduceBEq,reduceLeDiff];rfl)|(simp (disch:=omega) only[go_sem,if_yes,if_no,↓reduceIte,reduceAdd,reduceMul,reduceEqDiff,Nat.reduceBEq,reduceLeDiff]))),(by repeat' (first|exact trivial|refine And.intro ?_ ?_|rfl|(simp (disch:=omega) only[go_sem,if_yes,if_no,↓reduceIte,reduceAdd,reduceMul,reduceEqDiff,Nat.reduceBEq,reduceLeDiff];rfl)|(simp (disch:=omega) only[go_sem,if_yes,if_no,↓reduceIte,reduceAdd,reduceMul,reduceEqDiff,Nat.reduceBEq,reduceLeDiff]))),rfl,(by first|exact HOld.of _ (by omega)|exact HOld.put _ _ _ (by omega))⟩
  · have e:i=3:=by omega
    subst e
    simp (disch:=omega) only[AEnd,Tryd.results90,aresK,fin,go_sem,↓reduceIte,reduceEqDiff,reduceAdd,reduceLeDiff,if_yes,if_no,implies_true,true_and,and_true,List.reverse_cons,List.reverse_nil]
    rw [skN3]
end Go.Proofs.YtaijkalhkgjakaaDoor
