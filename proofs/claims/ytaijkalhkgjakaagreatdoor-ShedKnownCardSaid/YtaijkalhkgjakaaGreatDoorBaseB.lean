/- Our own logic over the model: abstract values, an abstract heap, and what a piece of code asks of them. Lean checks it. Conditions: none. -/
import Derived.Test.YtaijkalhkgjakaaGreatDoorBaseA
import Derived.OrdersIn
import Derived.RangeFuncIn
set_option linter.all false
set_option linter.unusedSimpArgs false
set_option linter.unusedVariables false
namespace Go.Av
variable {P:Program} {tt:Nat→TI}
def condP (b:Bool) (A B:Prop):Prop:=(b=true→A)∧(b=false→B)
def gval (want:Bool):AV→Option Bool
 | .bool b=>some (b == want)
 | .tup []=>some false
 | _=>none
def gst (ops:Array Oper) (o:Oper) (s:AS):Option Bool:=match o.guard with
 | none=>some true
 | some (j,want)=>match (ops[j]?).bind (·.dst) with
  | none=>none
  | some d=>gval want (s.tmp d)
def awpG (ops:Array Oper) (o:Oper) (s:AS) (run skip:Prop):Prop :=
 match gst ops o s with
 | some b=>condP b run skip
 | none=>False
def awpOps (P:Program) (tt:Nat→TI) (fi:FI) (k0:Nat) (ops:Array Oper) (K:AS→Prop):List Oper→AS→Prop
 | [],s=>K s
 | o :: rest,s=>awpG ops o s (awp1 P tt fi k0 o s (awpOps P tt fi k0 ops K rest)) (awpOps P tt fi k0 ops K rest (s.set o.dst (.tup [])))
def regOk (n:Nat):List Oper→List Nat→Bool
 | [],_=>true
 | o :: os,D=>match o.dst with
  | none=>regOk n os D
  | some d=>decide (d < n) && !D.contains d && regOk n os (d :: D)
theorem VL_undef {c:Cx} {lb:Bid→Option Nat}:VL c lb (.tup []) undef:=by simp only[VL,VR];exact ⟨[],rfl,VRs.nil⟩
theorem yielded_rel {c:Cx} {lb:Bid→Option Nat} {s:AS} {n:Nat} {a:Act} (F:FRel c lb s n a) {ops:Array Oper} {j d:Nat} (hj:(ops[j]?).bind (·.dst)=some d) :
  (∀ b,s.tmp d=.bool b→yielded ops a.tmps j=some b)∧(s.tmp d=.tup []→yielded ops a.tmps j=none):=by
 have h:=F.tmps d
 unfold yielded
 simp only[hj,Option.bind_some]
 refine ⟨fun b hb=>?_,fun hb=>?_⟩
 ·rw [hb,VL_bool] at h
  have hlt:d < a.tmps.size:=by
   rcases Nat.lt_or_ge d a.tmps.size with h'|h'
   ·exact h'
   ·rw [Array.getD_eq_getD_getElem?,Array.getElem?_eq_none h'] at h;cases h
  rw [Array.getD_eq_getD_getElem?,Array.getElem?_eq_getElem hlt] at h
  rw [Array.getElem?_eq_getElem hlt]
  simp only[Option.getD_some] at h
  rw [h]
 ·rw [hb] at h
  simp only[VL,VR,VRs] at h
  obtain ⟨xs,h,rfl⟩:=h
  rcases Nat.lt_or_ge d a.tmps.size with h'|h'
  ·rw [Array.getD_eq_getD_getElem?,Array.getElem?_eq_getElem h'] at h
   rw [Array.getElem?_eq_getElem h']
   simp only[Option.getD_some] at h
   rw [h]
  ·rw [Array.getElem?_eq_none h']
theorem gst_sound {c:Cx} {lb:Bid→Option Nat} {s:AS} {n:Nat} {a:Act} (F:FRel c lb s n a) {ops:Array Oper} {o:Oper} {b:Bool} (h:gst ops o s=some b):Region.wanted o (yielded ops a.tmps)=b:=by
 unfold gst at h
 unfold Region.wanted
 cases hg:o.guard with
 | none=>rw [hg] at h;simpa using h
 | some p =>
  obtain ⟨j,want⟩:=p
  rw [hg] at h
  dsimp only at h ⊢
  cases hd:(ops[j]?).bind (·.dst) with
  | none=>rw [hd] at h;cases h
  | some d =>
   rw [hd] at h
   dsimp only at h
   obtain ⟨y1,y2⟩:=yielded_rel F hd
   unfold gval at h
   split at h
   ·rename_i v hv;cases h;rw [y1 _ hv];cases v <;> cases want <;> rfl
   ·rename_i hv;cases h;rw [y2 hv];rfl
   ·cases h
theorem ops_sound (T:Tab P tt) {fi:FI} {k0:Nat} {r:Option Nat} {c0:Cx} {h0:AH} {ops:Array Oper} {K:AS→Prop} {Q:Exit→Act→World→Prop} (hk0:h0.clk≤k0)
  (hn:∀ c' lb' s' a',SR c0 h0 c' lb' s' fi.n a'→K s'→Q .normal a' c'.w):∀ (l:List Nat) (os:List Oper) (D:List Nat),l.map (ops[·]?)=os.map some→regOk fi.n os D=true →
   ∀ (c:Cx) (lb:Bid→Option Nat) (s:AS) (a:Act),SR c0 h0 c lb s fi.n a→Fresh k0 c lb D→k0 < s.h.clk→awpOps P tt fi k0 ops K os s→wpOpsIn (FW r) 0 P ops Q l a c.w
 | [],os,D,hl,_,c,lb,s,a,S,_,_,h=>by
  obtain rfl:os=[]:=by cases os with|nil=>rfl|cons=>simp at hl
  exact hn c lb s a S h
 | i :: l,[],D,hl,_,_,_,_,_,_,_,_,_=>by simp at hl
 | i :: l,o :: os,D,hl,hr,c,lb,s,a,S,hF,hk,h=>by
  simp only[List.map_cons,List.cons.injEq] at hl
  obtain ⟨ho,hl⟩:=hl
  have hdst:(∀ d,o.dst=some d→d < fi.n∧d ∉ D)∧regOk fi.n os (o.dst.toList ++ D)=true:=by
   unfold regOk at hr
   split at hr
   ·rename_i hd
    exact ⟨by rw [hd];simp,by rw [hd];exact hr⟩
   ·rename_i d hd
    simp only[Bool.and_eq_true,decide_eq_true_eq,Bool.not_eq_true',List.contains_eq_mem,decide_eq_false_iff_not] at hr
    refine ⟨fun d' hd'=>?_,by rw [hd];exact hr.2⟩
    rw [hd] at hd'
    cases hd'
    exact hr.1
  have run_:awp1 P tt fi k0 o s (awpOps P tt fi k0 ops K os)→o.wpIn (FW r) 0 P a c.w (wpOpsIn (FW r) 0 P ops Q l) Q:=fun h1 =>
   op1_sound T S hF hk hk0 hdst.1 h1 (fun c' lb' s' a' S' F' k' h'=>ops_sound T hk0 hn l os _ hl hdst.2 c' lb' s' a' S' F' k' h')
  have skip_:awpOps P tt fi k0 ops K os (s.set o.dst (.tup []))→wpOpsIn (FW r) 0 P ops Q l (a.put o.dst undef) c.w:=fun h1 =>
   ops_sound T hk0 hn l os _ hl hdst.2 c lb _ _ (S.put VL_undef (fun d hd=>(hdst.1 d hd).1)) (hF.mono (fun d hd=>List.mem_append.2 (.inr hd))) (by rw [AS.set_h];exact hk) h1
  simp only[wpOpsIn,ho]
  unfold awpOps awpG at h
  cases hg:gst ops o s with
  | none=>rw [hg] at h;exact h.elim
  | some b =>
   rw [hg] at h
   have hw:=gst_sound S.fr hg
   cases b
   ·rw [if_neg (by rw [hw];simp)]
    exact ⟨fun _ _=>trivial,skip_ (h.2 rfl)⟩
   ·rw [if_pos hw]
    exact run_ (h.1 rfl)
def SQ (c0:Cx) (h0:AH) (n:Nat) (Q:Exit→AS→Prop):Exit→Act→World→Prop:=fun e a' w'=>∃ c' lb' s',c'.w=w'∧SR c0 h0 c' lb' s' n a'∧Q e s'
def ASem (P:Program) (r:Option Nat) (n:Nat) (code:Code) (Q:Exit→AS→Prop) (s:AS):Prop :=
 ∀ (c0:Cx) (h0:AH) (c:Cx) (lb:Bid→Option Nat) (a:Act),SR c0 h0 c lb s n a→code.wpIn (FW r) 0 P (SQ c0 h0 n Q) a c.w
theorem ASem.mono {r:Option Nat} {n:Nat} {code:Code} {Q Q':Exit→AS→Prop} {s:AS} (h:ASem P r n code Q s) (hq:∀ e s',Q e s'→Q' e s'):ASem P r n code Q' s :=
 fun c0 h0 c lb a S=>wpIn_mono (h c0 h0 c lb a S) fun _ _ _ ⟨c',lb',s',e1,S',q⟩=>⟨c',lb',s',e1,S',hq _ _ q⟩
def thenA (K:AS→Prop) (Q:Exit→AS→Prop):Exit→AS→Prop
 | .normal,s=>K s
 | e,s=>Q e s
def blockA (id:Nat) (Q:Exit→AS→Prop):Exit→AS→Prop
 | .exit id',s=>if id'=id then Q .normal s else Q (.exit id') s
 | e,s=>Q e s
theorem ASem.seq {r:Option Nat} {n:Nat} {x y:Code} {Q:Exit→AS→Prop} {s:AS} (h:ASem P r n x (thenA (ASem P r n y Q) Q) s):ASem P r n (.seq x y) Q s:=by
 intro c0 h0 c lb a S
 refine wpIn_seq (wpIn_mono (h c0 h0 c lb a S) ?_)
 rintro e a' w' ⟨c',lb',s',rfl,S',q⟩
 cases e with
 | normal=>exact q c0 h0 c' lb' a' S'
 | _=>exact ⟨c',lb',s',rfl,S',q⟩
theorem ASem.skip {r:Option Nat} {n:Nat} {Q:Exit→AS→Prop} {s:AS} (h:Q .normal s):ASem P r n .skip Q s:=fun _ _ c lb a S=>wpIn_skip ⟨c,lb,s,rfl,S,h⟩
theorem ASem.label {r:Option Nat} {n l:Nat} {Q:Exit→AS→Prop} {s:AS} (h:Q .normal s):ASem P r n (.label l) Q s:=fun _ _ c lb a S=>wpIn_label ⟨c,lb,s,rfl,S,h⟩
theorem ASem.exit {r:Option Nat} {n id:Nat} {Q:Exit→AS→Prop} {s:AS} (h:Q (.exit id) s):ASem P r n (.exit id) Q s:=fun _ _ c lb a S=>wpIn_exit ⟨c,lb,s,rfl,S,h⟩
theorem ASem.ret {r:Option Nat} {n:Nat} {Q:Exit→AS→Prop} {s:AS} (h:Q .ret s):ASem P r n .ret Q s:=fun _ _ c lb a S=>wpIn_ret ⟨c,lb,s,rfl,S,h⟩
theorem ASem.cond {r:Option Nat} {n:Nat} {x:Operand} {t:Bool} {a b:Code} {Q:Exit→AS→Prop} {s:AS} (hx:s.ev x=.bool t) (h:condP t (ASem P r n a Q s) (ASem P r n b Q s)):ASem P r n (.cond x a b) Q s:=by
 intro c0 h0 c lb act S
 have he:=S.fr.ev x
 rw [hx,VL_bool] at he
 cases t
 ·exact wpIn_cond_false he (h.2 rfl c0 h0 c lb act S)
 ·exact wpIn_cond_true he (h.1 rfl c0 h0 c lb act S)
theorem ASem.block {r:Option Nat} {n id:Nat} {x:Code} {Q:Exit→AS→Prop} {s:AS} (h:ASem P r n x (blockA id Q) s):ASem P r n (.block id x) Q s:=by
 intro c0 h0 c lb a S
 refine wpIn_block (wpIn_mono (h c0 h0 c lb a S) ?_)
 rintro e a' w' ⟨c',lb',s',rfl,S',q⟩
 cases e with
 | exit id' =>
  simp only[blockA] at q
  simp only[Exit.inBlock]
  split
  ·rename_i e;rw [if_pos e] at q;exact ⟨c',lb',s',rfl,S',q⟩
  ·rename_i e;rw [if_neg e] at q;exact ⟨c',lb',s',rfl,S',q⟩
 | _=>exact ⟨c',lb',s',rfl,S',q⟩
theorem ASem.region {r:Option Nat} (T:Tab P tt) {fi:FI} {id:Nat} {ops:Array Oper} {Q:Exit→AS→Prop} {s:AS} (hr:regOk fi.n ops.toList []=true)
  (h:awpOps P tt fi s.h.clk ops (fun s'=>Q .normal s') ops.toList { s with h:=s.h.tick (s.h.clk+1) }):ASem P r fi.n (.region id ops false) Q s:=by
 intro c0 h0 c lb a S
 have S1:SR c0 h0 c lb { s with h:=s.h.tick (s.h.clk+1) } fi.n a:=by
  refine ⟨S.hr.tick (Nat.le_succ _),⟨S.fr.size,S.fr.tmps,S.fr.defers,S.fr.marks,S.fr.box,fun i b hb=>Nat.lt_succ_of_lt (S.fr.lbclk i b hb),S.fr.lbinj,S.fr.lbsize⟩,?_,S.new,S.dn,S.mnew⟩
  exact ⟨S.evo.le,Nat.le_succ_of_le S.evo.clk,S.evo.size,S.evo.keep,S.evo.imnew,S.evo.rwnew,S.evo.stay,S.evo.os,S.evo.out,S.evo.tape,S.evo.gl⟩
 refine wpIn_region (ops_sound T (K:=fun s'=>Q .normal s') S.evo.clk (fun c' lb' s' a' S' hK=>⟨c',lb',s',rfl,S',hK⟩) (List.range ops.size) ops.toList [] ?_ hr c lb _ a S1 ?_ (Nat.lt_succ_self _) h)
 ·apply List.ext_getElem?
  intro i
  simp only[List.getElem?_map]
  by_cases hi:i < ops.size
  ·rw [List.getElem?_range hi]
   simp [hi]
  ·rw [List.getElem?_eq_none (by simp;omega),List.getElem?_eq_none (by simp;omega)];rfl
 ·intro d _
  refine ⟨fun hd=>Nat.lt_irrefl _ (S.hr.clk _ hd),?_⟩
  cases hl:lb (s.h.clk,d) with
  | none=>rfl
  | some b=>exact absurd (S.fr.lbclk _ b hl) (Nat.lt_irrefl _)
theorem exists_min (p:Nat→Prop) (h:∃ n,p n):∃ n,p n∧∀ k,p k→n≤k:=by
 obtain ⟨n,hn⟩:=h
 induction n using Nat.strongRecOn with
 | _ n ih =>
  by_cases hx:∃ m,m < n∧p m
  ·obtain ⟨m,hm,hp⟩:=hx
   exact ih m hm hp
  ·exact ⟨n,hn,fun k hk=>Nat.le_of_not_lt fun hlt=>hx ⟨k,hlt,hk⟩⟩
theorem ASem.loop {r:Option Nat} {n:Nat} {x:Code} {Q:Exit→AS→Prop} {s:AS} (I:AS→Prop) (μ:AS→Nat) (h₀:I s)
  (round:∀ s,I s→ASem P r n x (thenA (fun s'=>I s'∧μ s' < μ s) Q) s):ASem P r n (.loop x) Q s:=by
 intro c0 h0 c lb a S
 classical
 let R:Act→World→AS→Prop:=fun a w s=>∃ c lb,c.w=w∧SR c0 h0 c lb s n a∧I s
 let M:Act→World→Nat→Prop:=fun a w m=>∃ s,R a w s∧μ s=m
 let ν:Act→World→Nat:=fun a w=>if h:∃ m,M a w m then (exists_min (M a w) h).choose else 0
 have hν:∀ a w s,R a w s→ν a w≤μ s:=by
  intro a w s hs
  have hex:∃ m,M a w m:=⟨μ s,s,hs,rfl⟩
  simp only[ν,dif_pos hex]
  exact (exists_min (M a w) hex).choose_spec.2 _ ⟨s,hs,rfl⟩
 have hat:∀ a w,(∃ s,R a w s)→∃ s,R a w s∧μ s=ν a w:=by
  rintro a w ⟨s,hs⟩
  have hex:∃ m,M a w m:=⟨μ s,s,hs,rfl⟩
  simp only[ν,dif_pos hex]
  exact (exists_min (M a w) hex).choose_spec.1
 refine wpIn_loop (fun a w=>∃ s,R a w s) ν ⟨s,c,lb,rfl,S,h₀⟩ ?_
 intro a w hex
 obtain ⟨s,⟨c,lb,rfl,S,hI⟩,hm⟩:=hat a w hex
 refine wpIn_mono (round s hI c0 h0 c lb a S) ?_
 rintro e a' w' ⟨c',lb',s',rfl,S',q⟩
 cases e with
 | normal =>
  have hR:R a' c'.w s':=⟨c',lb',rfl,S',q.1⟩
  exact ⟨⟨s',hR⟩,Nat.lt_of_le_of_lt (hν _ _ _ hR) (hm ▸ q.2)⟩
 | _=>exact ⟨c',lb',s',rfl,S',q⟩
end Go.Av
namespace Go.Av
variable {P:Program} {tt:Nat→TI}
def startA (args:List AV) (h:AH):AS:={ tmp:=fun t=>args.getD t .undef,box:=fun _=>none,mks:=[],h:=h }
def aresK (tt:Nat→TI) (s:AS):List ResultVar→List AV→(List AV→Prop)→Prop
 | [],acc,K=>K acc.reverse
 | .tmp t :: rs,acc,K=>noL (s.tmp t)=true∧aresK tt s rs (s.tmp t :: acc) K
 | .cell a ty :: rs,acc,K=>ok (aload (tt ty) s (s.tmp a)) fun v=>aresK tt s rs (v :: acc) K
def fin:List AV→AV
 | [v]=>v
 | vs=>.tup vs
def AEnd (tt:Nat→TI) (rs:List ResultVar) (Q:AV→AH→Prop):Exit→AS→Prop
 | .normal,s|.ret,s=>aresK tt s rs [] fun vs=>Q (fin vs) s.h
 | _,_=>False
def rread (tmps:Array Value):ResultVar→Sem Value
 | .tmp t=>pure (tmps.getD t undef)
 | .cell a t=>do loadVar t (← asAddr (tmps.getD a undef))
theorem results_eq (fn:Func) (tmps:Array Value):results fn tmps=(do let vs ← fn.results.mapM (rread tmps);pure (if h:vs.size=1 then vs[0] else .tuple vs)):=by
 unfold results
 congr 1
theorem ares_sound (T:Tab P tt) {c:Cx} {lb:Bid→Option Nat} {s:AS} {n:Nat} {a:Act} (H:HRel c s.h) (F:FRel c lb s n a) {K:List AV→Prop}:∀ (rs:List ResultVar) (acc:List AV) (xs:List Value),VRs c acc.reverse xs→aresK tt s rs acc K →
  ∃ vs ys,K vs∧VRs c vs (xs ++ ys)∧(rs.mapM (rread a.tmps)).run P c.w=.ok ys c.w
 | [],acc,xs,hv,h=>⟨acc.reverse,[],h,by simpa using hv,rfl⟩
 | .tmp t :: rs,acc,xs,hv,h=>by
  have hx:=(F.tmps t).vr h.1
  obtain ⟨vs,ys,hK,hr,hrun⟩:=ares_sound T H F rs (s.tmp t :: acc) (xs ++ [a.tmps.getD t undef]) (by rw [List.reverse_cons];exact hv.append (VRs.cons hx VRs.nil)) h.2
  refine ⟨vs,a.tmps.getD t undef :: ys,hK,by simpa using hr,?_⟩
  rw [List.mapM_cons,Sem.run_bind]
  simp only[rread,Sem.run_pure,Result.andThen_ok,Sem.run_bind]
  rw [hrun];rfl
 | .cell i t :: rs,acc,xs,hv,h=>by
  obtain ⟨v,hl,hK⟩:=h
  obtain ⟨z,hz,hrun0⟩:=load_sound T H F (F.tmps i) hl
  obtain ⟨vs,ys,hK',hr,hrun⟩:=ares_sound T H F rs (v :: acc) (xs ++ [z]) (by rw [List.reverse_cons];exact hv.append (VRs.cons hz VRs.nil)) hK
  refine ⟨vs,z :: ys,hK',by simpa using hr,?_⟩
  have hp:∃ ad,a.tmps.getD i undef=.pointer (some ad):=by
   have hrow:∃ rr,s.row (s.tmp i)=some rr:=by
    unfold aload at hl
    split at hl
    ·exact ⟨_,by assumption⟩
    ·cases hl
   obtain ⟨rr,hrow⟩:=hrow
   obtain ⟨b,o,xs',hx,_⟩:=row_sound H F (F.tmps i) (r:=rr.1) (j:=rr.2) hrow
   exact ⟨_,hx⟩
  obtain ⟨ad,had⟩:=hp
  rw [had] at hrun0
  have hrun1:(loadVar t ad).run P c.w=.ok z c.w:=by
   have:=hrun0
   simp only[Instr.loadAt,Instr.sureAddr,Sem.run_bind,Sem.run_pure,Result.andThen_ok] at this
   exact this
  have hrd:(rread a.tmps (.cell i t)).run P c.w=.ok z c.w:=by
   simp only[rread,had,asAddr,Sem.run_bind,Sem.run_pure,Result.andThen_ok,hrun1]
  rw [List.mapM_cons,Sem.run_bind,hrd,Result.andThen_ok,Sem.run_bind,hrun];rfl
theorem results_sound (T:Tab P tt) {c:Cx} {lb:Bid→Option Nat} {s:AS} {n:Nat} {a:Act} (H:HRel c s.h) (F:FRel c lb s n a) {fn:Func} {Q:AV→AH→Prop} (h:aresK tt s fn.results.toList [] fun vs=>Q (fin vs) s.h) :
  ∃ v x,(results fn a.tmps).run P c.w=.ok x c.w∧VR c v x∧Q v s.h:=by
 obtain ⟨vs,ys,hQ,hv,hrun⟩:=ares_sound T H F fn.results.toList [] [] VRs.nil h
 simp only[List.nil_append] at hv
 refine ⟨fin vs,if h:ys.toArray.size=1 then ys.toArray[0] else .tuple ys.toArray,?_,?_,hQ⟩
 ·rw [results_eq,Array.mapM_eq_mapM_toList,Sem.run_bind,map_eq_pure_bind,Sem.run_bind,hrun];rfl
 ·cases vs with
  | nil =>
   simp only[VRs] at hv
   subst hv
   simp only[fin,List.size_toArray,List.length_nil]
   simp only[VR]
   exact ⟨[],rfl,VRs.nil⟩
  | cons u us =>
   cases us with
   | nil =>
    simp only[VRs] at hv
    obtain ⟨x,_,rfl,hx,rfl⟩:=hv
    simpa [fin] using hx
   | cons u2 us =>
    have hl:=hv.length
    have:¬ ys.toArray.size=1:=by simp;simp at hl;omega
    simp only[this,dite_false,fin]
    simp only[VR]
    exact ⟨ys,rfl,hv⟩
theorem run_takeDeferred' {w:World} {r:Nat} (h:w.heap[r]?=some (.deferred (some []))):(Instr.takeDeferred r).run P w=.ok [] { w with heap:=w.heap.setIfInBounds r (.deferred none) }:=by
 simp [Instr.takeDeferred,getObj,setObj,Sem.run,h]
theorem aresK_mks {s:AS} {ms:List Nat} {K:List AV→Prop}:∀ (rs:List ResultVar) (acc:List AV),aresK tt { s with mks:=ms } rs acc K=aresK tt s rs acc K
 | [],_=>rfl
 | .tmp t :: rs,acc=>by simp only[aresK,aresK_mks rs]
 | .cell a ty :: rs,acc=>by
  simp only[aresK,aresK_mks rs]
  rfl
theorem leaves_sound (T:Tab P tt) {fi:FI} {fn:Func} {Q:AV→AH→Prop} {c0:Cx} {h0:AH}:∀ (ms:List Nat) {c:Cx} {lb:Bid→Option Nat} {s:AS} {a:Act},SR c0 h0 c lb s fi.n a→s.mks=ms→(aresK tt s fn.results.toList [] fun vs=>Q (fin vs) s.h) →
  LeavesInM (FW none) 0 P fn a.tmps (Ends c0 h0 Q) (ms.map fun r=>{ target:=.collected r,args:=#[] }) .returning c.w
 | [],c,lb,s,a,S,_,h=>by
  obtain ⟨v,x,hr,hv,hQ⟩:=results_sound T S.hr S.fr (fn:=fn) h
  exact ⟨x,hr,v,x,c,s.h,rfl,rfl,hv,S.hr,S.evo,S.dn,hQ⟩
 | m :: ms,c,lb,s,a,S,hm,h=>by
  have hmem:m ∈ s.mks:=by rw [hm];simp
  have hd:=(S.fr.marks.2 m hmem).1
  have hnd:=S.fr.marks.1
  rw [hm,List.nodup_cons] at hnd
  let w':World:={ c.w with heap:=c.w.heap.setIfInBounds m (.deferred none) }
  have hold:∀ i,i ≠ m→w'.heap[i]?=c.w.heap[i]?:=fun i hi=>by simp only[w',Array.getElem?_setIfInBounds,if_neg (Ne.symm hi)]
  have hsz:w'.heap.size=c.w.heap.size:=by simp [w']
  have hnrw:=RW.notDeferred S.hr hd
  have him:¬ c.im m:=(S.fr.marks.2 m hmem).2
  have hH:HRel { c with w:=w' } s.h:=S.hr.world (by rw [hsz];exact Nat.le_refl _) (fun b hb=>hold b (by rintro rfl;exact hb.elim hnrw him))
  have hle:c.Le { c with w:=w' }:=⟨fun _ h=>h,fun _ _=>rfl,fun _ h=>h,fun b hb=>hold b (by rintro rfl;exact him hb)⟩
  refine ⟨by simp,.inl ⟨m,w',rfl,run_takeDeferred' hd,?_⟩⟩
  have S':SR c0 h0 { c with w:=w' } lb { s with mks:=ms } fi.n { a with defers:=ms.map fun r=>{ target:=.collected r,args:=#[] } }:=by
   refine ⟨hH,⟨S.fr.size,fun t=>(S.fr.tmps t).mono hle (fun _ _ h=>h),rfl,⟨hnd.2,fun r hr=>⟨(hold r (by rintro rfl;exact hnd.1 hr)).trans (S.fr.marks.2 r (by rw [hm];simp [hr])).1,(S.fr.marks.2 r (by rw [hm];simp [hr])).2⟩⟩,?_,S.fr.lbclk,S.fr.lbinj,fun i b hb=>by rw [hsz];exact S.fr.lbsize i b hb⟩,?_,S.new,S.dn,fun r hr=>S.mnew r (by rw [hm];exact List.mem_cons_of_mem _ hr)⟩
   ·intro id cs hb
    obtain ⟨b,xs,ty,g1,g2,g3,g4,g5,g6⟩:=S.fr.box id cs hb
    exact ⟨b,xs,ty,g1,(hold b (by rintro rfl;rw [hd] at g2;cases g2)).trans g2,g3,g4,VRs.mono hle _ _ g5,g6⟩
   ·have hmn:=S.mnew m hmem
    exact ⟨S.evo.le.trans hle,S.evo.clk,by rw [hsz];exact S.evo.size,fun i hi hn=>(hold i (by omega)).trans (S.evo.keep i hi hn),S.evo.imnew,S.evo.rwnew,S.evo.stay,S.evo.os,S.evo.out,S.evo.tape,S.evo.gl⟩
  exact leaves_sound T ms S' rfl (by rw [aresK_mks];exact h)
theorem startA_rel {c:Cx} {h:AH} (H:HRel c h) {args:List AV} {xs:List Value} (hv:VRs c args xs) {n:Nat} (hn:args.length≤n) :
  SR c h c (fun _=>none) (startA args h) n { tmps:=xs.toArray ++ Array.replicate (n - xs.toArray.size) undef,defers:=[] }:=by
 have hl:=hv.length
 refine ⟨H,⟨by simp;omega,fun t=>?_,rfl,⟨List.nodup_nil,by simp [startA]⟩,by simp [startA],by simp,by simp,by simp⟩,Evo.refl c h,by simp,fun _ h=>.inl h,by simp [startA]⟩
 simp only[startA]
 by_cases ht:t < args.length
 ·have hx:t < xs.length:=by omega
  obtain ⟨x,hx',hr⟩:=hv.get t _ (List.getElem?_eq_getElem ht)
  rw [List.getD_eq_getElem?_getD,List.getElem?_eq_getElem ht]
  simp only[Option.getD_some]
  rw [Array.getD_eq_getD_getElem?,Array.getElem?_append_left (by simpa using hx)]
  simp only[List.getElem?_toArray,hx',Option.getD_some]
  exact hr.vl _
 ·rw [List.getD_eq_getElem?_getD,List.getElem?_eq_none (by omega)]
  simp [VL,VR]
end Go.Av
namespace Go.Av
variable {P:Program} {tt:Nat→TI}
inductive Eff where
 | none
 | loc (id:Bid) (cs:List AV)
 | heap (id:Bid) (e:Nat) (es:List (List AV))
def Eff.app (s:AS):Eff→AS
 | .none=>s
 | .loc id cs=>s.newLoc id cs
 | .heap id e es=>s.newHeap id e es
def ap (s:AS) (o:Oper) (r:AV × Eff):AS:=(r.2.app s).set o.dst r.1
def dnew (fi:FI) (id:Bid) (d:Nat) (box:Bool) (r:Nat × List (List AV) × Nat):AV × Eff :=
 if fi.loc.contains d then (.lptr id 0,.loc id (r.2.1.getD 0 []))
 else if box && fi.imm.contains d then (.iptr (r.2.1.getD 0 []) 0,.none)
 else (.ptr id 0 0,.heap id r.1 r.2.1)
def dres (tt:Nat→TI) (fi:FI) (k0:Nat) (o:Oper) (s:AS):Option (AV × Eff) :=
 match o.op with
 | .load t p=>(aload (tt t) s (s.ev p)).map (·,.none)
 | .alloc t=>match o.dst with
  | some d=>(arows tt s.ev (.alloc t)).map (dnew fi (k0,d) d false)
  | none=>none
 | .box t x=>match o.dst with
  | some d=>(arows tt s.ev (.box t x)).map (dnew fi (k0,d) d true)
  | none=>none
 | .buildSlice t n ps=>match o.dst with
  | some d=>(absl tt s.ev t n ps.toList).map fun r=>if fi.imm.contains d then (if fi.loc.contains d then .lstx r.1 r.2 else .lst r.1 r.2,.none) else (.slc (k0,d) r.1 0 n,.heap (k0,d) r.1 r.2)
  | none=>none
 | .makeSlice t l c=>match o.dst with
  | some d=>(amake tt t (s.ev l) (s.ev c)).map fun r=>(.slc (k0,d) r.1 0 r.2.2,.heap (k0,d) r.1 r.2.1)
  | none=>none
 | .slice t x lo hi none=>(asl (tt t) (elsize tt t) (lo.map s.ev) (hi.map s.ev) (s.ev x)).map (·,.none)
 | .nilCheck x=>(nilv (s.ev x)).map (·,.none)
 | .call cl=>match cl.callee with
  | .builtin .len=>match cl.args.toList,cl.argTypes.toList with
   | [x],[t]=>(alen (tt t) (s.ev x)).map fun n=>(.int .i64 n,.none)
   | _,_=>none
  | .builtin .max=>(amm true (cl.args.toList.map s.ev)).map (·,.none)
  | .builtin .min=>(amm false (cl.args.toList.map s.ev)).map (·,.none)
  | _=>none
 | .store ..=>none
 | op=>(pval tt s.ev op).map (·,.none)
def isDet (o:Oper):Bool:=match o.op with
 | .store ..=>false
 | .slice _ _ _ _ (some _)=>false
 | .call cl=>match cl.callee with
  | .builtin .len=>cl.args.toList.length == 1 && cl.argTypes.toList.length == 1
  | .builtin .max|.builtin .min=>true
  | _=>false
 | .makeMap ..|.mapUpdate ..|.insert ..|.lookup ..=>false
 | _=>true
theorem ok_map {α β:Type} {r:Option α} {f:α→β} {K:β→Prop}:ok (r.map f) K ↔ ok r (fun v=>K (f v)):=by
 cases r <;> simp [ok]
theorem awpNew_iff {fi:FI} {id:Bid} {d:Nat} {box:Bool} {s:AS} {r:Nat × List (List AV) × Nat} {K:AS→Prop} {o:Oper} (ho:o.dst=some d):awpNew fi id d box s r K ↔ K (ap s o (dnew fi id d box r)):=by
 unfold awpNew dnew ap
 rw [ho]
 split
 ·exact Iff.rfl
 ·split <;> exact Iff.rfl
theorem awp1_det {fi:FI} {k0:Nat} {o:Oper} {s:AS} {K:AS→Prop} (hd:isDet o=true):awp1 P tt fi k0 o s K ↔ ok (dres tt fi k0 o s) (fun r=>K (ap s o r)):=by
 unfold awp1 dres
 unfold isDet at hd
 cases ho:o.op <;> rw [ho] at hd <;> (try dsimp only at hd) <;> (try dsimp only) <;> (try (cases hd;done))
 case load=>rw [ok_map];exact Iff.rfl
 case alloc t =>
  cases hdst:o.dst with
  | some d=>dsimp only;rw [ok_map];simp only[awpNew_iff hdst]
  | none=>simp [ok]
 case box t x =>
  cases hdst:o.dst with
  | some d=>dsimp only;rw [ok_map];simp only[awpNew_iff hdst]
  | none=>simp [ok]
 case buildSlice t n ps =>
  cases hdst:o.dst with
  | some d =>
   dsimp only
   rw [ok_map]
   unfold ok ap
   rw [hdst]
   constructor
   ·rintro ⟨v,hv,h⟩
    refine ⟨v,hv,?_⟩
    split at h <;> rename_i hi <;> simp only[hi] <;> exact h
   ·rintro ⟨v,hv,h⟩
    refine ⟨v,hv,?_⟩
    split <;> rename_i hi <;> simp only[hi] at h <;> exact h
  | none=>simp [ok]
 case makeSlice t l c =>
  cases hdst:o.dst with
  | some d=>dsimp only;rw [ok_map];unfold ap;rw [hdst];exact Iff.rfl
  | none=>simp [ok]
 case slice t x lo hi mx =>
  cases mx with
  | none=>simp only;rw [ok_map];exact Iff.rfl
  | some m=>simp at hd
 case nilCheck x=>rw [ok_map];exact Iff.rfl
 case call cl =>
  unfold awpCall
  cases hc:cl.callee <;> rw [hc] at hd <;> (try dsimp only at hd) <;> (try dsimp only) <;> (try (cases hd;done))
  rename_i b
  cases b <;> (try dsimp only at hd) <;> (try dsimp only) <;> (try (cases hd;done))
  case len =>
   simp only[Bool.and_eq_true,beq_iff_eq] at hd
   obtain ⟨h1,h2⟩:=hd
   match ha:cl.args.toList,hb:cl.argTypes.toList,h1,h2 with
   | [x],[t],_,_ =>
    simp only
    rw [ok_map];exact Iff.rfl
  case max=>rw [ok_map];exact Iff.rfl
  case min=>rw [ok_map];exact Iff.rfl
 all_goals (rw [ok_map];exact Iff.rfl)
theorem awpG_iff {ops:Array Oper} {o:Oper} {s:AS} {A B:Prop}:awpG ops o s A B ↔ (match gst ops o s with|some true=>A|some false=>B|none=>False):=by
 unfold awpG
 cases gst ops o s with
 | none=>simp
 | some b=>cases b <;> simp [condP]
def FI.slot (fi:FI) (x:Operand):Option Nat:=match x with
 | .tmp t=>(fi.imm.find? fun k=>decide (2000000+1000 * t≤k) && decide (k < 2000000+1000 * t+1000)).map fun k=>k % 1000
 | _=>none
def slotOk (d:Option Nat) (v:AV):Bool:=match d,v with
 | none,_=>true
 | some d,.lptr id _=>id.2 == d
 | some _,_=>false
def notHeap (v:AV):Bool:=match v with
 | .ptr ..=>false
 | .gptr ..=>false
 | .aptr ..=>false
 | _=>true
def isPtr (v:AV):Bool:=match v with
 | .ptr ..=>true
 | _=>false
def FI.pslot (fi:FI) (o:Oper):Option Nat:=match o.op with
 | .store _ p _=>fi.slot p
 | _=>none
def flagOk (fi:FI) (fl:Bool) (o:Oper) (s:AS):Bool:=match fl,o.op with
 | true,.load _ p=>slotOk (fi.slot p) (s.ev p) && notHeap (s.ev p)
 | true,.store _ p _=>match fi.slot p with
  | some d=>slotOk (some d) (s.ev p)
  | none=>isPtr (s.ev p)
 | _,_=>true
def gstep (tt:Nat→TI) (fi:FI) (k0:Nat) (ops:Array Oper) (o:Oper) (s:AS):Option AS:=match gst ops o s with
 | some true=>(dres tt fi k0 o s).map (ap s o)
 | some false=>some (s.set o.dst (.tup []))
 | none=>none
end Go.Av
namespace Go.Av
variable {P:Program} {tt:Nat→TI}
theorem map_ev {ev ev':Operand→AV} {l:List Operand} (h:∀ x ∈ l,ev' x=ev x):l.map ev'=l.map ev:=List.map_congr_left h
theorem pval_congr {ev ev':Operand→AV} {op:Op} (h:∀ x ∈ op.operands,ev' x=ev x):pval tt ev' op=pval tt ev op:=by
 cases op <;> simp only[Op.operands,List.mem_toArray,List.mem_cons,List.not_mem_nil,or_false,forall_eq_or_imp,forall_eq,Array.mem_append,Array.mem_def] at h <;> simp only[pval]
 case move=>rw [h]
 case assign=>rw [h]
 case pick=>rw [h.1,h.2.1,h.2.2]
 case binOp=>rw [h.1,h.2]
 case unOp=>rw [h]
 case convert=>rw [h]
 case fieldAddr=>rw [h]
 case field=>rw [h]
 case indexAddr=>rw [h.1,h.2]
 case index=>rw [h.1,h.2]
 case extract=>rw [h]
 case build t ps =>
  congr 1
  refine List.map_congr_left (fun p hp=>?_)
  rw [h p.2 (by simp;exact ⟨p.1,by simpa using hp⟩)]
 case makeFunc f first cap =>
  have h1:first.toList.map ev'=first.toList.map ev:=map_ev (fun x hx=>h x (by simp at hx ⊢;exact .inl hx))
  have h2:cap.toList.map ev'=cap.toList.map ev:=map_ev (fun x hx=>h x (by simp at hx ⊢;exact .inr hx))
  rw [h1,h2]
theorem absl_congr {ev ev':Operand→AV} {t n:Nat} {ps:List (Nat × Operand)} (h:∀ p ∈ ps,ev' p.2=ev p.2):absl tt ev' t n ps=absl tt ev t n ps:=by
 unfold absl
 have h1:(ps.map fun p=>(ev' p.2).cells)=ps.map fun p=>(ev p.2).cells:=List.map_congr_left (fun p hp=>by rw [h p hp])
 have h2:(ps.all fun p=>noL (ev' p.2) && ((ev' p.2).cells.length == (tt 0).size) && (ev' p.2).cells.all AV.cell)=ps.all fun p=>noL (ev p.2) && ((ev p.2).cells.length == (tt 0).size) && (ev p.2).cells.all AV.cell:=by
  rw [Bool.eq_iff_iff,List.all_eq_true,List.all_eq_true]
  exact ⟨fun hh p hp=>by rw [← h p hp];exact hh p hp,fun hh p hp=>by rw [h p hp];exact hh p hp⟩
 split
 ·rename_i el hk
  have h3:∀ z:Nat,(ps.all fun p=>noL (ev' p.2) && ((ev' p.2).cells.length == z) && (ev' p.2).cells.all AV.cell)=ps.all fun p=>noL (ev p.2) && ((ev p.2).cells.length == z) && (ev p.2).cells.all AV.cell:=by
   intro z
   rw [Bool.eq_iff_iff,List.all_eq_true,List.all_eq_true]
   exact ⟨fun hh p hp=>by rw [← h p hp];exact hh p hp,fun hh p hp=>by rw [h p hp];exact hh p hp⟩
  rw [h3,h1]
 ·rfl
theorem dres_congr {fi:FI} {k0:Nat} {o:Oper} {s s':AS} (h:∀ x ∈ o.op.operands,s'.ev x=s.ev x) (hr:∀ t p,o.op=.load t p→s'.row (s.ev p)=s.row (s.ev p)):dres tt fi k0 o s'=dres tt fi k0 o s:=by
 have hpv:=pval_congr (tt:=tt) h
 unfold dres
 cases ho:o.op <;> rw [ho] at h hr hpv <;> (try dsimp only) <;> (try rw [hpv]) <;> simp only[Op.operands,Call.operands,List.mem_toArray,List.mem_cons,List.not_mem_nil,or_false,forall_eq_or_imp,forall_eq,Array.mem_append,Array.mem_def] at h
 case load t p=>rw [h];unfold aload;rw [hr t p rfl]
 case box t x =>
  split
  ·simp only[arows,h]
  ·rfl
 case alloc=>rfl
 case buildSlice t n ps =>
  split
  ·rw [absl_congr (fun p hp=>h p.2 (by simp;exact ⟨p.1,by simpa using hp⟩))]
  ·rfl
 case makeSlice t l c=>rw [h.1,h.2]
 case slice t x lo hi mx =>
  cases mx with
  | some m=>rfl
  | none =>
   dsimp only
   have h1:lo.map s'.ev=lo.map s.ev:=by
    cases lo with
    | none=>rfl
    | some l=>simp only[Option.map_some];rw [h l (by simp)]
   have h2:hi.map s'.ev=hi.map s.ev:=by
    cases hi with
    | none=>rfl
    | some l=>simp only[Option.map_some];rw [h l (by simp)]
   rw [h1,h2,h x (by simp)]
 case nilCheck x=>rw [h]
 case call cl =>
  cases hc:cl.callee <;> (try dsimp only)
  rename_i b
  have hargs:∀ x ∈ cl.args.toList,s'.ev x=s.ev x:=fun x hx=>h x (by simp at hx ⊢;exact .inr hx)
  cases b <;> (try dsimp only)
  case len =>
   split
   ·rename_i x t ha _;rw [hargs x (by rw [ha];simp)]
   ·rfl
  case max=>rw [map_ev hargs]
  case min=>rw [map_ev hargs]
theorem looks_ev {ops:Array Oper} {o:Oper} {s s':AS} (h:∀ d ∈ o.looksAt ops,s'.tmp d=s.tmp d):∀ x ∈ o.op.operands,s'.ev x=s.ev x:=by
 intro x hx
 cases x with
 | tmp t =>
  refine h t ?_
  unfold Oper.looksAt
  refine List.mem_append.2 (.inl (List.mem_filterMap.2 ⟨.tmp t,by simpa using hx,rfl⟩))
 | _=>rfl
theorem gst_congr {ops:Array Oper} {o:Oper} {s s':AS} (h:∀ d ∈ o.looksAt ops,s'.tmp d=s.tmp d):gst ops o s'=gst ops o s:=by
 unfold gst
 cases hg:o.guard with
 | none=>rfl
 | some p =>
  obtain ⟨j,want⟩:=p
  dsimp only
  cases hd:(ops[j]?).bind (·.dst) with
  | none=>rfl
  | some d =>
   dsimp only
   rw [h d (by unfold Oper.looksAt;refine List.mem_append.2 (.inr ?_);rw [hg];dsimp only;rw [hd];simp)]
theorem set_tmp_ne {s:AS} {dst:Option Tmp} {v:AV} {d:Tmp} (h:dst ≠ some d):(s.set dst v).tmp d=s.tmp d:=by
 cases dst with
 | none=>rfl
 | some e=>simp only[AS.set];exact upd_ne _ _ (fun e'=>h (by rw [e']))
theorem set_comm {s:AS} {x y:Option Tmp} {v u:AV} (h:∀ d,x=some d→y ≠ some d):(s.set x v).set y u=(s.set y u).set x v:=by
 cases x with
 | none=>rfl
 | some d =>
  cases y with
  | none=>rfl
  | some e =>
   simp only[AS.set]
   rw [upd_comm _ _ _ (fun e'=>h d rfl (by rw [e']))]
@[simp] theorem app_tmp (s:AS) (e:Eff):(e.app s).tmp=s.tmp:=by cases e <;> rfl
theorem app_set (s:AS) (e:Eff) (d:Option Tmp) (v:AV):e.app (s.set d v)=(e.app s).set d v:=by cases e <;> cases d <;> rfl
def Eff.id?:Eff→Option Bid
 | .none=>Option.none
 | .loc id _=>some id
 | .heap id _ _=>some id
theorem dres_id {fi:FI} {k0:Nat} {o:Oper} {s:AS} {r:AV × Eff} (h:dres tt fi k0 o s=some r):∀ id,r.2.id?=some id→∃ d,o.dst=some d∧id=(k0,d):=by
 intro id hid
 unfold dres at h
 have key:∀ {α:Type} {x:Option α} {f:α→AV × Eff},x.map f=some r→(∀ y,(f y).2=.none)→False:=by
  intro α x f hx hf
  cases x with
  | none=>cases hx
  | some y=>simp only[Option.map_some,Option.some.injEq] at hx;rw [← hx,hf] at hid;cases hid
 cases ho:o.op <;> rw [ho] at h <;> (try dsimp only at h)
 case alloc t =>
  split at h
  ·rename_i d hd
   refine ⟨d,hd,?_⟩
   cases hx:arows tt s.ev (.alloc t) with
   | none=>rw [hx] at h;cases h
   | some y =>
    rw [hx] at h
    simp only[Option.map_some,Option.some.injEq] at h
    rw [← h] at hid
    unfold dnew at hid
    split at hid
    ·simpa [Eff.id?] using hid.symm
    ·split at hid
     ·simp [Eff.id?] at hid
     ·simpa [Eff.id?] using hid.symm
  ·cases h
 case box t x =>
  split at h
  ·rename_i d hd
   refine ⟨d,hd,?_⟩
   cases hx:arows tt s.ev (.box t x) with
   | none=>rw [hx] at h;cases h
   | some y =>
    rw [hx] at h
    simp only[Option.map_some,Option.some.injEq] at h
    rw [← h] at hid
    unfold dnew at hid
    split at hid
    ·simpa [Eff.id?] using hid.symm
    ·split at hid
     ·simp [Eff.id?] at hid
     ·simpa [Eff.id?] using hid.symm
  ·cases h
 case buildSlice t n ps =>
  split at h
  ·rename_i d hd
   refine ⟨d,hd,?_⟩
   cases hx:absl tt s.ev t n ps.toList with
   | none=>rw [hx] at h;cases h
   | some y =>
    rw [hx] at h
    simp only[Option.map_some,Option.some.injEq] at h
    rw [← h] at hid
    split at hid
    ·simp [Eff.id?] at hid
    ·simpa [Eff.id?] using hid.symm
  ·cases h
 case makeSlice t l c =>
  split at h
  ·rename_i d hd
   refine ⟨d,hd,?_⟩
   cases hx:amake tt t (s.ev l) (s.ev c) with
   | none=>rw [hx] at h;cases h
   | some y =>
    rw [hx] at h
    simp only[Option.map_some,Option.some.injEq] at h
    rw [← h] at hid
    simpa [Eff.id?] using hid.symm
  ·cases h
 case slice t x lo hi mx =>
  cases mx with
  | none=>exact (key h (fun _=>rfl)).elim
  | some m=>simp [pval] at h
 case call cl =>
  cases hc:cl.callee <;> rw [hc] at h <;> (try dsimp only at h) <;> (try (cases h;done))
  rename_i b
  cases b <;> (try dsimp only at h) <;> (try (cases h;done))
  ·split at h
   ·exact (key h (fun _=>rfl)).elim
   ·cases h
  all_goals exact (key h (fun _=>rfl)).elim
 all_goals first
  | exact (key h (fun _=>rfl)).elim
  | (cases h;done)
theorem row_app {s:AS} {e:Eff} {p:AV} (h:∀ id,e.id?=some id→(∀ i j,p ≠ .ptr id i j)∧(∀ j,p ≠ .lptr id j)∧∀ m j,p ≠ .aptr id m j):(e.app s).row p=s.row p:=by
 cases e with
 | none=>rfl
 | loc id cs =>
  obtain ⟨h1,h2,h3⟩:=h id rfl
  cases p <;> simp only[AS.row,Eff.app,AS.newLoc]
  rename_i t j
  rw [upd_ne _ _ (by rintro rfl;exact h2 j rfl)]
 | heap id e es =>
  obtain ⟨h1,h2,h3⟩:=h id rfl
  cases p <;> simp only[AS.row,Eff.app,AS.newHeap,AH.put]
  ·rename_i b i j
   rw [upd_ne _ _ (by rintro rfl;exact h1 i j rfl)]
  ·rename_i b i j
   rw [upd_ne _ _ (by rintro rfl;exact h3 i j rfl)]
theorem row_set (s:AS) (d:Option Tmp) (v p:AV):(s.set d v).row p=s.row p:=by cases d <;> rfl
theorem app_comm {s:AS} {e f:Eff} (h:∀ i j,e.id?=some i→f.id?=some j→i ≠ j):f.app (e.app s)=e.app (f.app s):=by
 cases e <;> cases f <;> simp only[Eff.app,AS.newLoc,AS.newHeap,AH.put]
 ·rename_i i c j c'
  rw [upd_comm _ _ _ (h i j rfl rfl).symm]
 ·rename_i i e es j e' es'
  rw [upd_comm _ _ _ (h i j rfl rfl).symm]
def noRef (k0:Nat) (s:AS) (x y:Oper):Prop:=∀ t p,x.op=.load t p→∀ d,y.dst=some d→(∀ i j,s.ev p ≠ .ptr (k0,d) i j)∧(∀ j,s.ev p ≠ .lptr (k0,d) j)∧∀ m j,s.ev p ≠ .aptr (k0,d) m j
theorem gstep_tmp {fi:FI} {k0:Nat} {ops:Array Oper} {o:Oper} {s s1:AS} (h:gstep tt fi k0 ops o s=some s1) {d:Tmp} (hd:o.dst ≠ some d):s1.tmp d=s.tmp d:=by
 unfold gstep at h
 split at h
 ·cases hr:dres tt fi k0 o s with
  | none=>rw [hr] at h;cases h
  | some r =>
   rw [hr] at h
   simp only[Option.map_some,Option.some.injEq] at h
   rw [← h,ap,set_tmp_ne hd,app_tmp]
 ·cases h;exact set_tmp_ne hd
 ·cases h
theorem gstep_looks {fi:FI} {k0:Nat} {ops:Array Oper} {a i:Oper} {s s1:AS} (h:gstep tt fi k0 ops a s=some s1) (hap:a.apart ops i=true):∀ d ∈ i.looksAt ops,s1.tmp d=s.tmp d :=
 fun d hd=>gstep_tmp h (fun e=>(Oper.apart_spec hap).1 d e hd)
theorem gstep_form {fi:FI} {k0:Nat} {ops:Array Oper} {o:Oper} {s s1:AS} (h:gstep tt fi k0 ops o s=some s1) :
  (∃ r,gst ops o s=some true∧dres tt fi k0 o s=some r∧s1=ap s o r) ∨ (gst ops o s=some false∧s1=s.set o.dst (.tup [])):=by
 unfold gstep at h
 split at h
 ·rename_i hg
  cases hr:dres tt fi k0 o s with
  | none=>rw [hr] at h;cases h
  | some r=>rw [hr] at h;simp only[Option.map_some,Option.some.injEq] at h;exact .inl ⟨r,hg,rfl,h.symm⟩
 ·rename_i hg;cases h;exact .inr ⟨hg,rfl⟩
 ·cases h
theorem apart_symm {ops:Array Oper} {x y:Oper} (h:x.apart ops y=true):(∀ d,y.dst=some d→d ∉ x.looksAt ops)∧(∀ d,y.dst=some d→x.dst ≠ some d):=by
 obtain ⟨h1,h2,h3⟩:=Oper.apart_spec h
 exact ⟨h3,fun d hd hx=>h2 d hx hd⟩
theorem row_of_load {fi:FI} {k0:Nat} {o:Oper} {s:AS} {r:AV × Eff} (h:dres tt fi k0 o s=some r) {t:TypeId} {p:Operand} (hp:o.op=.load t p) {id:Bid} (h1:s.h.at_ id=none) (h2:s.box id=none) :
  (∀ i j,s.ev p ≠ .ptr id i j)∧(∀ j,s.ev p ≠ .lptr id j)∧∀ m j,s.ev p ≠ .aptr id m j:=by
 unfold dres at h
 rw [hp] at h
 dsimp only at h
 refine ⟨fun i j e=>?_,fun j e=>?_,fun m j e=>?_⟩
 ·rw [e] at h;simp [aload,AS.row,h1] at h
 ·rw [e] at h;simp [aload,AS.row,h2] at h
 ·rw [e] at h;simp [aload,AS.row,h1] at h
theorem swap_dd {fi:FI} {k0:Nat} {ops:Array Oper} {a i:Oper} {s s1 s2:AS} (hap:a.apart ops i=true) (h1:gstep tt fi k0 ops a s=some s1) (h2:gstep tt fi k0 ops i s1=some s2)
  (n1:noRef k0 s i a) (n2:∀ d,i.dst=some d→s.h.at_ (k0,d)=none∧s.box (k0,d)=none):∃ s',gstep tt fi k0 ops i s=some s'∧gstep tt fi k0 ops a s'=some s2:=by
 have hl:=gstep_looks h1 hap
 obtain ⟨hsy1,hsy2⟩:=apart_symm hap
 obtain ⟨_,hd12,_⟩:=Oper.apart_spec hap
 have hgi:=gst_congr (ops:=ops) (o:=i) hl
 have hev:=looks_ev hl
 -- i is what it was
 have hi:∃ s',gstep tt fi k0 ops i s=some s'∧(∀ d ∈ a.looksAt ops,s'.tmp d=s.tmp d) ∧
   ((∃ r,gst ops i s=some true∧dres tt fi k0 i s=some r∧s'=ap s i r∧s2=ap s1 i r) ∨ (gst ops i s=some false∧s'=s.set i.dst (.tup [])∧s2=s1.set i.dst (.tup []))):=by
  rcases gstep_form h2 with ⟨r,g1,g2,g3⟩|⟨g1,g2⟩
  ·have hdr:dres tt fi k0 i s1=dres tt fi k0 i s:=dres_congr hev (fun t p hp=>by
    rcases gstep_form h1 with ⟨ra,e1,e2,e3⟩|⟨e1,e2⟩
    ·rw [e3,ap,row_set]
     refine row_app (fun id hid=>?_)
     obtain ⟨d,hd,rfl⟩:=dres_id e2 id hid
     exact n1 t p hp d hd
    ·rw [e2,row_set])
   rw [hgi] at g1
   rw [hdr] at g2
   refine ⟨ap s i r,by unfold gstep;rw [g1];simp only[g2,Option.map_some],fun d hd=>?_,.inl ⟨r,g1,g2,rfl,g3⟩⟩
   rw [ap,set_tmp_ne (fun e=>hsy1 d e hd),app_tmp]
  ·rw [hgi] at g1
   exact ⟨s.set i.dst (.tup []),by unfold gstep;rw [g1],fun d hd=>set_tmp_ne (fun e=>hsy1 d e hd),.inr ⟨g1,rfl,g2⟩⟩
 obtain ⟨s',hs',hl',hform⟩:=hi
 refine ⟨s',hs',?_⟩
 have hga:=gst_congr (ops:=ops) (o:=a) hl'
 have heva:=looks_ev hl'
 have hdd:∀ d,a.dst=some d→i.dst ≠ some d:=hd12
 rcases gstep_form h1 with ⟨ra,e1,e2,e3⟩|⟨e1,e2⟩
 ·have hdr:dres tt fi k0 a s'=dres tt fi k0 a s:=dres_congr heva (fun t p hp=>by
   rcases hform with ⟨r,q1,q2,q3,q4⟩|⟨q1,q2,q3⟩
   ·rw [q3,ap,row_set]
    refine row_app (fun id hid=>?_)
    obtain ⟨d,hd,rfl⟩:=dres_id q2 id hid
    exact row_of_load e2 hp (n2 d hd).1 (n2 d hd).2
   ·rw [q2,row_set])
  unfold gstep
  rw [hga,e1]
  simp only[hdr,e2,Option.map_some,Option.some.injEq]
  rcases hform with ⟨r,q1,q2,q3,q4⟩|⟨q1,q2,q3⟩
  ·rw [q3,q4,e3]
   simp only[ap]
   rw [app_set,app_set,app_comm (e:=ra.2) (f:=r.2) (fun x y hx hy e=>by
    obtain ⟨d,hd,rfl⟩:=dres_id e2 x hx
    obtain ⟨d',hd',rfl⟩:=dres_id q2 y hy
    simp only[Prod.mk.injEq,true_and] at e
    exact hdd d hd (by rw [hd',e]))]
   exact (set_comm (fun d hd=>fun hd'=>hdd d hd' hd)).symm ▸ rfl
  ·rw [q2,q3,e3]
   simp only[ap]
   rw [app_set]
   exact (set_comm (fun d hd=>fun hd'=>hdd d hd' hd)).symm ▸ rfl
 ·unfold gstep
  rw [hga,e1]
  simp only[Option.some.injEq]
  rcases hform with ⟨r,q1,q2,q3,q4⟩|⟨q1,q2,q3⟩
  ·rw [q3,q4,e2]
   simp only[ap]
   rw [app_set]
   exact (set_comm (fun d hd=>fun hd'=>hdd d hd' hd)).symm ▸ rfl
  ·rw [q2,q3,e2]
   exact (set_comm (fun d hd=>fun hd'=>hdd d hd' hd)).symm ▸ rfl
end Go.Av
namespace Go.Av
variable {P:Program} {tt:Nat→TI}
def isEff (o:Oper):Bool:=match o.op with
 | .call cl=>match cl.callee with
  | .value _=>true
  | .builtin .append=>true
  | _=>false
 | _=>false
def EH (P:Program) (tt:Nat→TI) (k0:Nat) (o:Oper) (ev:Operand→AV) (h:AH) (K:AV→AH→Prop):Prop:=match o.op with
 | .call cl=>match cl.callee with
  | .value f=>(cl.args.toList.map ev).all noL=true∧AFn P (ev f) (cl.args.toList.map ev) h K
  | .builtin .append=>match cl.args.toList,cl.argTypes.toList with
   | [x,y],[t,t']=>match o.dst with
    | some d=>if t=t' then (ok (aapp tt h t (k0,d) (ev x) (ev y)) fun r=>K r.1 r.2) ∨ aappN tt h t (k0,d) (ev x) (ev y) K else False
    | none=>False
   | _,_=>False
  | _=>False
 | _=>False
theorem awp1_eff {fi:FI} {k0:Nat} {o:Oper} {s:AS} {K:AS→Prop} (he:isEff o=true):awp1 P tt fi k0 o s K ↔ EH P tt k0 o s.ev s.h (fun v h'=>K (AS.set { s with h:=h' } o.dst v)):=by
 unfold awp1 EH
 unfold isEff at he
 cases ho:o.op <;> rw [ho] at he <;> (try dsimp only at he) <;> (try (cases he;done))
 rename_i cl
 dsimp only
 unfold awpCall
 cases hc:cl.callee <;> rw [hc] at he <;> (try dsimp only at he) <;> (try (cases he;done)) <;> (try dsimp only)
 rename_i b
 cases b <;> (try dsimp only at he) <;> (try (cases he;done)) <;> (try dsimp only)
 cases hd:o.dst with
 | none =>
  cases ha:cl.args.toList with
  | nil=>simp
  | cons x l=>cases l with
   | nil=>simp
   | cons y l=>cases l with
    | cons z l=>simp
    | nil=>cases hb:cl.argTypes.toList with
     | nil=>simp
     | cons t m=>cases m with
      | nil=>simp
      | cons u m=>cases m <;> simp
 | some d =>
  cases ha:cl.args.toList with
  | nil=>simp
  | cons x l=>cases l with
   | nil=>simp
   | cons y l=>cases l with
    | cons z l=>simp
    | nil=>cases hb:cl.argTypes.toList with
     | nil=>simp
     | cons t m=>cases m with
      | nil=>simp
      | cons u m=>cases m with
       | cons=>simp
       | nil=>exact Iff.rfl
theorem AFn.mono {f:AV} {args:List AV} {h:AH} {K K':AV→AH→Prop} (H:AFn P f args h K) (hk:∀ v h',K v h'→K' v h'):AFn P f args h K':=by
 unfold AFn at H ⊢
 split at H
 ·exact H.mono hk
 ·intro c xs hc hx
  obtain ⟨fn,tmps,assign,body,hy,hR⟩:=H c xs hc hx
  exact ⟨fn,tmps,assign,body,hy,hR.mono (Ends.mono hk)⟩
 ·exact H.elim
theorem EH_mono {k0:Nat} {o:Oper} {ev:Operand→AV} {h:AH} {K K':AV→AH→Prop} (H:EH P tt k0 o ev h K) (hk:∀ v h',K v h'→K' v h'):EH P tt k0 o ev h K':=by
  unfold EH at H ⊢
  repeat' split at H
  all_goals first
    | exact H.elim
    | exact ⟨H.1,H.2.mono hk⟩
    | (rename_i hty
       subst hty
       rcases H with ⟨r,hr,hK⟩|H
       · simp only[*,if_true]
         exact .inl ⟨r,rfl,hk _ _ hK⟩
       · simp only[*,if_true]
         exact .inr (aappN_mono H hk))
theorem EH_congr {k0:Nat} {o:Oper} {ev ev':Operand→AV} (he:∀ x ∈ o.op.operands,ev' x=ev x) (h:AH) (K:AV→AH→Prop):EH P tt k0 o ev' h K=EH P tt k0 o ev h K:=by
 unfold EH
 cases ho:o.op <;> rw [ho] at he <;> (try dsimp only)
 rename_i cl
 have hargs:∀ x ∈ cl.args.toList,ev' x=ev x:=fun x hx=>he x (by simp [Op.operands,Call.operands];exact .inr (by simpa using hx))
 cases hc:cl.callee <;> (try dsimp only)
 ·rename_i f
  have hf:ev' f=ev f:=he f (by simp [Op.operands,Call.operands,hc])
  rw [map_ev hargs,hf]
 ·rename_i b
  cases b <;> (try dsimp only)
  split
  ·rename_i x y t t' ha hb
   rw [hargs x (by rw [ha];simp),hargs y (by rw [ha];simp)]
  ·rfl
def awpD (P:Program) (tt:Nat→TI) (fi:FI) (k0:Nat) (ops:Array Oper) (K:AS→Prop):List (Oper × Bool)→AS→Prop
 | [],s=>K s
 | (o,fl) :: rest,s=>awpG ops o s (flagOk fi fl o s=true∧awp1 P tt fi k0 o s (awpD P tt fi k0 ops K rest)) (awpD P tt fi k0 ops K rest (s.set o.dst (.tup [])))
def gstepF (tt:Nat→TI) (fi:FI) (k0:Nat) (ops:Array Oper) (x:Oper × Bool) (s:AS):Option AS :=
 if gst ops x.1 s=some true∧flagOk fi x.2 x.1 s=false then none else gstep tt fi k0 ops x.1 s
theorem detF_iff {fi:FI} {k0:Nat} {ops:Array Oper} {x:Oper × Bool} {s:AS} {K:AS→Prop} (hd:isDet x.1=true) :
  awpG ops x.1 s (flagOk fi x.2 x.1 s=true∧awp1 P tt fi k0 x.1 s K) (K (s.set x.1.dst (.tup []))) ↔ ok (gstepF tt fi k0 ops x s) K:=by
 rw [awpG_iff]
 unfold gstepF gstep
 cases gst ops x.1 s with
 | none=>simp [ok]
 | some b =>
  cases b
  ·simp [ok]
  ·dsimp only
   cases hf:flagOk fi x.2 x.1 s with
   | false=>simp [ok]
   | true=>simp only[true_and,Bool.true_eq_false,and_false,if_false];rw [awp1_det hd,ok_map]
theorem flag_congr {fi:FI} {ops:Array Oper} {o:Oper} {fl:Bool} {s s':AS} (h:∀ d ∈ o.looksAt ops,s'.tmp d=s.tmp d):flagOk fi fl o s'=flagOk fi fl o s:=by
 have he:=looks_ev h
 unfold flagOk
 cases fl with
 | false=>rfl
 | true =>
  cases ho:o.op <;> rw [ho] at he <;> (try dsimp only)
  ·rename_i t p
   rw [he p (by simp [Op.operands])]
  ·rename_i t p v
   rw [he p (by simp [Op.operands])]
theorem gstepF_some {fi:FI} {k0:Nat} {ops:Array Oper} {x:Oper × Bool} {s s1:AS}:gstepF tt fi k0 ops x s=some s1 ↔ gstep tt fi k0 ops x.1 s=some s1∧(gst ops x.1 s=some true→flagOk fi x.2 x.1 s=true):=by
 unfold gstepF
 split
 ·rename_i h
  simp [h.1,h.2]
 ·rename_i h
  refine ⟨fun e=>⟨e,fun hg=>?_⟩,fun e=>e.1⟩
  cases hf:flagOk fi x.2 x.1 s with
  | true=>rfl
  | false=>exact absurd ⟨hg,hf⟩ h
theorem swapF_dd {fi:FI} {k0:Nat} {ops:Array Oper} {a i:Oper × Bool} {s s1 s2:AS} (hap:a.1.apart ops i.1=true) (h1:gstepF tt fi k0 ops a s=some s1) (h2:gstepF tt fi k0 ops i s1=some s2)
  (n1:noRef k0 s i.1 a.1) (n2:∀ d,i.1.dst=some d→s.h.at_ (k0,d)=none∧s.box (k0,d)=none):∃ s',gstepF tt fi k0 ops i s=some s'∧gstepF tt fi k0 ops a s'=some s2:=by
 rw [gstepF_some] at h1 h2
 obtain ⟨s',e1,e2⟩:=swap_dd hap h1.1 h2.1 n1 n2
 have hl:=gstep_looks h1.1 hap
 have hl':∀ d ∈ a.1.looksAt ops,s'.tmp d=s.tmp d:=fun d hd=>gstep_tmp e1 (fun e=>(apart_symm hap).1 d e hd)
 refine ⟨s',gstepF_some.2 ⟨e1,fun hg=>?_⟩,gstepF_some.2 ⟨e2,fun hg=>?_⟩⟩
 ·rw [← flag_congr hl];exact h2.2 (by rw [gst_congr hl];exact hg)
 ·rw [flag_congr hl'];exact h1.2 (by rw [← gst_congr hl'];exact hg)
def quiet (fi:FI) (x:Oper × Bool):Bool:=match x.1.op with
 | .alloc _=>match x.1.dst with
  | some d=>fi.loc.contains d
  | none=>true
 | .box _ _=>match x.1.dst with
  | some d=>fi.loc.contains d || fi.imm.contains d
  | none=>true
 | .buildSlice ..=>match x.1.dst with
  | some d=>fi.imm.contains d
  | none=>true
 | .makeSlice ..=>false
 | .load ..=>x.2
 | _=>true
def Eff.low:Eff→Prop
 | .heap ..=>False
 | _=>True
theorem quiet_eff {fi:FI} {k0:Nat} {x:Oper × Bool} {s:AS} {r:AV × Eff} (hq:quiet fi x=true) (h:dres tt fi k0 x.1 s=some r):r.2.low:=by
 unfold dres at h
 unfold quiet at hq
 have key:∀ {α:Type} {y:Option α} {f:α→AV × Eff},y.map f=some r→(∀ z,(f z).2=.none)→r.2.low:=by
  intro α y f hx hf
  cases y with
  | none=>cases hx
  | some z=>simp only[Option.map_some,Option.some.injEq] at hx;rw [← hx,hf];trivial
 cases ho:x.1.op <;> rw [ho] at h hq <;> (try dsimp only at h hq)
 case alloc t =>
  cases hd:x.1.dst with
  | none=>rw [hd] at h;cases h
  | some d =>
   rw [hd] at h hq
   dsimp only at h hq
   cases hx:arows tt s.ev (.alloc t) with
   | none=>rw [hx] at h;cases h
   | some y =>
    rw [hx] at h
    simp only[Option.map_some,Option.some.injEq] at h
    rw [← h];unfold dnew;rw [if_pos hq];trivial
 case box t y =>
  cases hd:x.1.dst with
  | none=>rw [hd] at h;cases h
  | some d =>
   rw [hd] at h hq
   dsimp only at h hq
   cases hx:arows tt s.ev (.box t y) with
   | none=>rw [hx] at h;cases h
   | some y =>
    rw [hx] at h
    simp only[Option.map_some,Option.some.injEq] at h
    rw [← h];unfold dnew
    split
    ·trivial
    ·rename_i hl
     rw [Bool.or_eq_true] at hq
     rw [if_pos (by simp only[Bool.true_and];exact hq.resolve_left hl)];trivial
 case buildSlice t n ps =>
  cases hd:x.1.dst with
  | none=>rw [hd] at h;cases h
  | some d =>
   rw [hd] at h hq
   dsimp only at h hq
   cases hx:absl tt s.ev t n ps.toList with
   | none=>rw [hx] at h;cases h
   | some y =>
    rw [hx] at h
    simp only[Option.map_some,Option.some.injEq,hq,if_true] at h
    rw [← h];trivial
 case makeSlice t l c=>cases hq
 case slice t y lo hi mx =>
  cases mx with
  | none=>exact key h (fun _=>rfl)
  | some m=>simp [pval] at h
 case call cl =>
  cases hc:cl.callee <;> rw [hc] at h <;> (try dsimp only at h) <;> (try (cases h;done))
  rename_i b
  cases b <;> (try dsimp only at h) <;> (try (cases h;done))
  ·split at h
   ·exact key h (fun _=>rfl)
   ·cases h
  all_goals exact key h (fun _=>rfl)
 all_goals first
  | exact key h (fun _=>rfl)
  | (cases h;done)
end Go.Av
namespace Go.Av
variable {P:Program} {tt:Nat→TI}
def runF (tt:Nat→TI) (fi:FI) (k0:Nat) (ops:Array Oper):List (Oper × Bool)→AS→Option AS
 | [],s=>some s
 | x :: r,s=>(gstepF tt fi k0 ops x s).bind (runF tt fi k0 ops r)
theorem awpD_app {fi:FI} {k0:Nat} {ops:Array Oper} {K:AS→Prop} {B:List (Oper × Bool)}:∀ (A:List (Oper × Bool)) (s:AS),(∀ a ∈ A,isDet a.1=true) →
  (awpD P tt fi k0 ops K (A ++ B) s ↔ ok (runF tt fi k0 ops A s) (awpD P tt fi k0 ops K B))
 | [],s,_=>by simp [runF,ok]
 | (o,fl) :: A,s,hd=>by
  have h1:=detF_iff (P:=P) (tt:=tt) (fi:=fi) (k0:=k0) (ops:=ops) (x:=(o,fl)) (s:=s) (K:=awpD P tt fi k0 ops K (A ++ B)) (hd _ (by simp))
  simp only[List.cons_append,awpD]
  rw [h1]
  unfold ok
  simp only[runF]
  constructor
  ·rintro ⟨s1,e,h⟩
   obtain ⟨s2,e2,h2⟩:=(awpD_app A s1 (fun a ha=>hd a (by simp [ha]))).1 h
   exact ⟨s2,by rw [e];exact e2,h2⟩
  ·rintro ⟨s2,e,h⟩
   cases e1:gstepF tt fi k0 ops (o,fl) s with
   | none=>rw [e1] at e;cases e
   | some s1 =>
    rw [e1] at e
    exact ⟨s1,rfl,(awpD_app A s1 (fun a ha=>hd a (by simp [ha]))).2 ⟨s2,e,h⟩⟩
theorem gstep_at {fi:FI} {k0:Nat} {ops:Array Oper} {o:Oper} {s s1:AS} (h:gstep tt fi k0 ops o s=some s1) {id:Bid} (hid:∀ d,o.dst=some d→id ≠ (k0,d)):s1.h.at_ id=s.h.at_ id∧s1.box id=s.box id:=by
 rcases gstep_form h with ⟨r,_,hr,rfl⟩|⟨_,rfl⟩
 ·have hi:=dres_id hr
  have hh:((ap s o r).h.at_ id=(r.2.app s).h.at_ id)∧(ap s o r).box id=(r.2.app s).box id:=by
   unfold ap;cases o.dst <;> exact ⟨rfl,rfl⟩
  rw [hh.1,hh.2]
  cases hr2:r.2 with
  | none=>exact ⟨rfl,rfl⟩
  | loc i cs =>
   obtain ⟨d,hd,rfl⟩:=hi i (by rw [hr2];rfl)
   exact ⟨rfl,by simp only[Eff.app,AS.newLoc];rw [upd_ne _ _ (hid d hd)]⟩
  | heap i e es =>
   obtain ⟨d,hd,rfl⟩:=hi i (by rw [hr2];rfl)
   exact ⟨by simp only[Eff.app,AS.newHeap,AH.put];rw [upd_ne _ _ (hid d hd)],rfl⟩
 ·cases o.dst <;> exact ⟨rfl,rfl⟩
theorem front_dd {fi:FI} {k0:Nat} {ops:Array Oper} {i:Oper × Bool}:∀ (A:List (Oper × Bool)) (s s1 s2:AS),(∀ a ∈ A,a.1.apart ops i.1=true)→(∀ a ∈ A,noRef k0 s i.1 a.1) →
  (∀ d,i.1.dst=some d→s.h.at_ (k0,d)=none∧s.box (k0,d)=none)→runF tt fi k0 ops A s=some s1→gstepF tt fi k0 ops i s1=some s2 →
  ∃ s',gstepF tt fi k0 ops i s=some s'∧runF tt fi k0 ops A s'=some s2
 | [],s,s1,s2,_,_,_,h1,h2=>by
  simp only[runF,Option.some.injEq] at h1
  subst h1
  exact ⟨s2,h2,rfl⟩
 | a :: A,s,s1,s2,hap,hn,hf,h1,h2=>by
  simp only[runF] at h1
  cases e:gstepF tt fi k0 ops a s with
  | none=>rw [e] at h1;cases h1
  | some sa =>
   rw [e] at h1
   have hapa:=hap a (by simp)
   have e':=(gstepF_some.1 e).1
   have hl:=gstep_looks e' hapa
   obtain ⟨_,hdd,_⟩:=Oper.apart_spec hapa
   obtain ⟨t,ht1,ht2⟩:=front_dd A sa s1 s2 (fun x hx=>hap x (by simp [hx])) (fun x hx t p hp d hd=>by
     rw [looks_ev hl p (by rw [hp];simp [Op.operands])]
     exact hn x (by simp [hx]) t p hp d hd) (fun d hd=>by
     have:=gstep_at e' (id:=(k0,d)) (fun d' hd' e''=>by
      simp only[Prod.mk.injEq,true_and] at e''
      subst e''
      exact hdd d hd' hd)
     rw [this.1,this.2]
     exact hf d hd) h1 h2
   obtain ⟨s',g1,g2⟩:=swapF_dd hapa e ht1 (hn a (by simp)) hf
   exact ⟨s',g1,by simp only[runF,g2];exact ht2⟩
theorem quiet_step {fi:FI} {k0:Nat} {ops:Array Oper} {x:Oper × Bool} {s s1:AS} (hq:quiet fi x=true) (h:gstepF tt fi k0 ops x s=some s1) {dst:Option Tmp} (hx:∀ d,dst=some d→d ∉ x.1.looksAt ops∧x.1.dst ≠ some d) (h':AH) (v:AV) :
  s1.h=s.h∧gstepF tt fi k0 ops x (AS.set { s with h:=h' } dst v)=some (AS.set { s1 with h:=h' } dst v):=by
 rw [gstepF_some] at h
 obtain ⟨h1,h2⟩:=h
 have hl:∀ d ∈ x.1.looksAt ops,(AS.set { s with h:=h' } dst v).tmp d=s.tmp d:=fun d hd=>set_tmp_ne (fun e=>(hx d e).1 hd)
 have hev:=looks_ev hl
 have hg:=gst_congr (ops:=ops) hl
 have hfl:=flag_congr (fi:=fi) (fl:=x.2) hl
 rcases gstep_form h1 with ⟨r,g1,g2,rfl⟩|⟨g1,rfl⟩
 ·have hlow:=quiet_eff hq g2
  have hf:=h2 g1
  have hdr:dres tt fi k0 x.1 (AS.set { s with h:=h' } dst v)=dres tt fi k0 x.1 s:=dres_congr hev (fun t p hp=>by
   rw [row_set]
   unfold quiet at hq
   unfold flagOk at hf
   rw [hp] at hq hf
   dsimp only at hq
   rw [hq] at hf
   dsimp only at hf
   rw [Bool.and_eq_true] at hf
   have hf:=hf.2
   unfold notHeap at hf
   cases hpv:s.ev p <;> rw [hpv] at hf <;> first|(cases hf;done)|rfl)
  have hcomm:ap (AS.set { s with h:=h' } dst v) x.1 r=AS.set { ap s x.1 r with h:=h' } dst v∧(ap s x.1 r).h=s.h:=by
   unfold ap
   have hset:∀ (t:AS) (u:AV),(({ t with h:=h' }:AS).set x.1.dst u)={ t.set x.1.dst u with h:=h' }:=fun t u=>by cases x.1.dst <;> rfl
   cases hr2:r.2 with
   | none =>
    simp only[Eff.app,AS.set_h]
    refine ⟨?_,trivial⟩
    rw [← hset]
    exact set_comm (fun d hd hd'=>(hx d hd).2 hd')
   | loc id cs =>
    simp only[Eff.app,AS.set_h]
    refine ⟨?_,by cases x.1.dst <;> rfl⟩
    rw [← hset,show (AS.set { s with h:=h' } dst v).newLoc id cs=AS.set { s.newLoc id cs with h:=h' } dst v by cases dst <;> rfl]
    exact set_comm (fun d hd hd'=>(hx d hd).2 hd')
   | heap id e es=>rw [hr2] at hlow;exact hlow.elim
  refine ⟨hcomm.2,gstepF_some.2 ⟨?_,fun _=>by rw [hfl];exact hf⟩⟩
  unfold gstep
  rw [hg,g1]
  simp only[hdr,g2,Option.map_some,hcomm.1]
 ·refine ⟨AS.set_h _ _ _,gstepF_some.2 ⟨?_,fun e=>by rw [hg,g1] at e;cases e⟩⟩
  unfold gstep
  rw [hg,g1]
  simp only[Option.some.injEq]
  have hset:∀ (t:AS) (u:AV),(({ t with h:=h' }:AS).set x.1.dst u)={ t.set x.1.dst u with h:=h' }:=fun t u=>by cases x.1.dst <;> rfl
  rw [← hset]
  exact set_comm (fun d hd hd'=>(hx d hd).2 hd')
theorem quiet_run {fi:FI} {k0:Nat} {ops:Array Oper} {dst:Option Tmp} {h':AH} {v:AV}:∀ (A:List (Oper × Bool)) (s s1:AS),(∀ a ∈ A,quiet fi a=true)→(∀ a ∈ A,∀ d,dst=some d→d ∉ a.1.looksAt ops∧a.1.dst ≠ some d) →
  runF tt fi k0 ops A s=some s1→s1.h=s.h∧runF tt fi k0 ops A (AS.set { s with h:=h' } dst v)=some (AS.set { s1 with h:=h' } dst v)
 | [],s,s1,_,_,h=>by
  simp only[runF,Option.some.injEq] at h
  subst h
  exact ⟨rfl,rfl⟩
 | a :: A,s,s1,hq,hx,h=>by
  simp only[runF] at h
  cases e:gstepF tt fi k0 ops a s with
  | none=>rw [e] at h;cases h
  | some sa =>
   rw [e] at h
   obtain ⟨g1,g2⟩:=quiet_step (hq a (by simp)) e (hx a (by simp)) h' v
   obtain ⟨g3,g4⟩:=quiet_run A sa s1 (fun x hx'=>hq x (by simp [hx'])) (fun x hx'=>hx x (by simp [hx'])) h
   exact ⟨g3.trans g1,by simp only[runF,g2];exact g4⟩
theorem runF_looks {fi:FI} {k0:Nat} {ops:Array Oper} {i:Oper}:∀ (A:List (Oper × Bool)) (s s1:AS),(∀ a ∈ A,a.1.apart ops i=true)→runF tt fi k0 ops A s=some s1→∀ d ∈ i.looksAt ops,s1.tmp d=s.tmp d
 | [],s,s1,_,h=>by simp only[runF,Option.some.injEq] at h;subst h;exact fun _ _=>rfl
 | a :: A,s,s1,hap,h=>by
  simp only[runF] at h
  cases e:gstepF tt fi k0 ops a s with
  | none=>rw [e] at h;cases h
  | some sa =>
   rw [e] at h
   intro d hd
   rw [runF_looks A sa s1 (fun x hx=>hap x (by simp [hx])) h d hd]
   exact gstep_looks (gstepF_some.1 e).1 (hap a (by simp)) d hd
theorem front_eff {fi:FI} {k0:Nat} {ops:Array Oper} {K:AS→Prop} {i:Oper} {A B:List (Oper × Bool)} {s:AS} (he:isEff i=true) (hd:∀ a ∈ A,isDet a.1=true) (hq:∀ a ∈ A,quiet fi a=true) (hap:∀ a ∈ A,a.1.apart ops i=true)
  (h:ok (runF tt fi k0 ops A s) fun s1=>awpG ops i s1 (awp1 P tt fi k0 i s1 (awpD P tt fi k0 ops K B)) (awpD P tt fi k0 ops K B (s1.set i.dst (.tup [])))) :
  awpG ops i s (awp1 P tt fi k0 i s (awpD P tt fi k0 ops K (A ++ B))) (awpD P tt fi k0 ops K (A ++ B) (s.set i.dst (.tup []))):=by
 obtain ⟨s1,h1,h⟩:=h
 have hl:=runF_looks A s s1 hap h1
 have hx:∀ a ∈ A,∀ d,i.dst=some d→d ∉ a.1.looksAt ops∧a.1.dst ≠ some d:=fun a ha d hd=>⟨(apart_symm (hap a ha)).1 d hd,(apart_symm (hap a ha)).2 d hd⟩
 rw [awpG_iff] at h ⊢
 rw [gst_congr hl] at h
 cases hg:gst ops i s with
 | none=>rw [hg] at h;exact h
 | some b =>
  rw [hg] at h
  cases b
  ·dsimp only at h ⊢
   refine (awpD_app A _ hd).2 ⟨_,(quiet_run A s s1 hq hx h1 (h':=s.h) (v:=.tup [])).2,?_⟩
   rw [← (quiet_run A s s1 hq hx h1 (h':=s.h) (v:=.tup [])).1]
   exact h
  ·dsimp only at h ⊢
   rw [awp1_eff he] at h ⊢
   rw [EH_congr (looks_ev hl),(quiet_run A s s1 hq hx h1 (h':=s.h) (v:=.tup [])).1] at h
   refine EH_mono h (fun v h' hK=>?_)
   exact (awpD_app A _ hd).2 ⟨_,(quiet_run A s s1 hq hx h1 (h':=h') (v:=v)).2,hK⟩
def isPut (o:Oper):Bool:=match o.op,o.dst with
 | .store ..,none=>true
 | _,_=>false
theorem aput_ptr {ti:TI} {s t s':AS} {b:Bid} {i j:Nat} {v:AV} (hh:t.h=s.h) (h:aput ti s (.ptr b i j) v=some s'):∃ h',s'={ s with h:=h' }∧aput ti t (.ptr b i j) v=some { t with h:=h' }:=by
 unfold aput at h ⊢
 split at h
 ·rename_i hc
  rw [if_pos hc]
  dsimp only at h ⊢
  rw [hh]
  split at h
  ·split at h
   ·split at h
    ·cases h
     exact ⟨_,rfl,by simp only[*,if_true]⟩
    ·cases h
   ·cases h
  ·cases h
 ·cases h
theorem front_put {fi:FI} {k0:Nat} {ops:Array Oper} {K:AS→Prop} {i:Oper} {A B:List (Oper × Bool)} {s:AS} (he:isPut i=true) (hsl:fi.pslot i=none) (hd:∀ a ∈ A,isDet a.1=true) (hq:∀ a ∈ A,quiet fi a=true) (hap:∀ a ∈ A,a.1.apart ops i=true)
  (h:ok (runF tt fi k0 ops A s) fun s1=>awpG ops i s1 (flagOk fi true i s1=true∧awp1 P tt fi k0 i s1 (awpD P tt fi k0 ops K B)) (awpD P tt fi k0 ops K B (s1.set i.dst (.tup [])))) :
  awpG ops i s (awp1 P tt fi k0 i s (awpD P tt fi k0 ops K (A ++ B))) (awpD P tt fi k0 ops K (A ++ B) (s.set i.dst (.tup []))):=by
 obtain ⟨s1,h1,h⟩:=h
 obtain ⟨dst,op,ty,p,af,g⟩:=i
 unfold isPut at he
 dsimp only at he
 split at he
 ·rename_i tt0 q v
  have hl:=runF_looks A s s1 hap h1
  have hx:∀ a ∈ A,∀ d,(none:Option Tmp)=some d→d ∉ a.1.looksAt ops∧a.1.dst ≠ some d:=fun a ha d hd=>by cases hd
  rw [awpG_iff] at h ⊢
  rw [gst_congr hl] at h
  cases hg:gst ops ⟨none,.store tt0 q v,ty,p,af,g⟩ s with
  | none=>rw [hg] at h;exact h
  | some b =>
   rw [hg] at h
   cases b
   ·dsimp only at h ⊢
    refine (awpD_app A _ hd).2 ⟨_,(quiet_run A s s1 hq hx h1 (h':=s.h) (v:=.tup [])).2,?_⟩
    rw [← (quiet_run A s s1 hq hx h1 (h':=s.h) (v:=.tup [])).1]
    exact h
   ·dsimp only at h ⊢
    obtain ⟨hf,s',hs',hK⟩:=h
    have hev:=looks_ev hl
    have e1:s1.ev q=s.ev q:=hev q (by simp [Op.operands])
    have e2:s1.ev v=s.ev v:=hev v (by simp [Op.operands])
    unfold flagOk at hf
    dsimp only at hf
    rw [show fi.slot q=none from hsl] at hf
    dsimp only at hf
    unfold isPtr at hf
    rw [e1] at hf
    rw [e1,e2] at hs'
    cases hq':s.ev q <;> rw [hq'] at hf <;> (try (cases hf;done))
    rename_i b i j
    rw [hq'] at hs'
    have hh:=(quiet_run A s s1 hq hx h1 (h':=s.h) (v:=.tup [])).1
    obtain ⟨h',rfl,g2⟩:=aput_ptr (t:=s) hh.symm hs'
    refine ⟨{ s with h:=h' },by rw [hq'];exact g2,?_⟩
    exact (awpD_app A _ hd).2 ⟨_,(quiet_run A s s1 hq hx h1 (h':=h') (v:=.tup [])).2,hK⟩
 ·cases he
def still (o:Oper):Bool:=match o.op with
 | .load ..|.alloc _|.box ..|.buildSlice ..|.makeSlice ..|.store ..=>false
 | _=>true
theorem still_eff {fi:FI} {k0:Nat} {o:Oper} {s:AS} {r:AV × Eff} (hq:still o=true) (h:dres tt fi k0 o s=some r):r.2=.none:=by
 unfold dres at h
 unfold still at hq
 have key:∀ {α:Type} {y:Option α} {f:α→AV × Eff},y.map f=some r→(∀ z,(f z).2=.none)→r.2=.none:=by
  intro α y f hx hf
  cases y with
  | none=>cases hx
  | some z=>simp only[Option.map_some,Option.some.injEq] at hx;rw [← hx,hf]
 cases ho:o.op <;> rw [ho] at h hq <;> (try dsimp only at h hq) <;> (try (cases hq;done))
 case slice t y lo hi mx =>
  cases mx with
  | none=>exact key h (fun _=>rfl)
  | some m=>simp [pval] at h
 case call cl =>
  cases hc:cl.callee <;> rw [hc] at h <;> (try dsimp only at h) <;> (try (cases h;done))
  rename_i b
  cases b <;> (try dsimp only at h) <;> (try (cases h;done))
  ·split at h
   ·exact key h (fun _=>rfl)
   ·cases h
  all_goals exact key h (fun _=>rfl)
 all_goals first
  | exact key h (fun _=>rfl)
  | (cases h;done)
def AS.mem (s:AS) (B:Bid→Option (List AV)) (h:AH):AS:={ s with box:=B,h:=h }
theorem still_step {fi:FI} {k0:Nat} {ops:Array Oper} {x:Oper × Bool} {s s1:AS} (hq:still x.1=true) (h:gstepF tt fi k0 ops x s=some s1) (B:Bid→Option (List AV)) (h':AH) :
  s1.h=s.h∧s1.box=s.box∧gstepF tt fi k0 ops x (s.mem B h')=some (s1.mem B h'):=by
 rw [gstepF_some] at h
 obtain ⟨h1,h2⟩:=h
 have hl:∀ d ∈ x.1.looksAt ops,(s.mem B h').tmp d=s.tmp d:=fun d hd=>rfl
 have hev:=looks_ev hl
 have hg:=gst_congr (ops:=ops) hl
 have hfl:=flag_congr (fi:=fi) (fl:=x.2) hl
 rcases gstep_form h1 with ⟨r,g1,g2,rfl⟩|⟨g1,rfl⟩
 ·have hlow:=still_eff hq g2
  have hf:=h2 g1
  have hdr:dres tt fi k0 x.1 (s.mem B h')=dres tt fi k0 x.1 s:=dres_congr hev (fun t p hp=>by
   unfold still at hq;rw [hp] at hq;cases hq)
  obtain ⟨v,e⟩:=r
  dsimp only at hlow
  subst hlow
  refine ⟨by unfold ap;cases x.1.dst <;> rfl,by unfold ap;cases x.1.dst <;> rfl,gstepF_some.2 ⟨?_,fun _=>by rw [hfl];exact hf⟩⟩
  unfold gstep
  rw [hg,g1]
  simp only[hdr,g2,Option.map_some]
  unfold ap;cases x.1.dst <;> rfl
 ·refine ⟨AS.set_h _ _ _,by cases x.1.dst <;> rfl,gstepF_some.2 ⟨?_,fun e=>by rw [hg,g1] at e;cases e⟩⟩
  unfold gstep
  rw [hg,g1]
  cases x.1.dst <;> rfl
theorem still_run {fi:FI} {k0:Nat} {ops:Array Oper} {B:Bid→Option (List AV)} {h':AH}:∀ (A:List (Oper × Bool)) (s s1:AS),(∀ a ∈ A,still a.1=true) →
  runF tt fi k0 ops A s=some s1→s1.h=s.h∧s1.box=s.box∧runF tt fi k0 ops A (s.mem B h')=some (s1.mem B h')
 | [],s,s1,_,h=>by
  simp only[runF,Option.some.injEq] at h
  subst h
  exact ⟨rfl,rfl,rfl⟩
 | a :: A,s,s1,hq,h=>by
  simp only[runF] at h
  cases e:gstepF tt fi k0 ops a s with
  | none=>rw [e] at h;cases h
  | some sa =>
   rw [e] at h
   obtain ⟨g1,g1',g2⟩:=still_step (hq a (by simp)) e B h'
   obtain ⟨g3,g3',g4⟩:=still_run A sa s1 (fun x hx'=>hq x (by simp [hx'])) h
   exact ⟨g3.trans g1,g3'.trans g1',by simp only[runF,g2];exact g4⟩
theorem aput_mem {ti:TI} {s t s':AS} {p v:AV} (hh:t.h=s.h) (hb:t.box=s.box) (h:aput ti s p v=some s'):∃ B h',s'=s.mem B h'∧aput ti t p v=some (t.mem B h'):=by
 obtain ⟨T1,B1,M1,H1⟩:=t
 obtain ⟨T2,B2,M2,H2⟩:=s
 dsimp only at hh hb
 subst hh hb
 unfold aput at h ⊢
 split at h
 ·rename_i hc
  rw [if_pos hc]
  cases p <;> dsimp only at h ⊢ <;> (try (cases h;done))
  ·split at h
   ·split at h
    ·split at h
     ·cases h
      exact ⟨_,_,rfl,by simp only[*,if_true];rfl⟩
     ·cases h
    ·cases h
   ·cases h
  ·split at h
   ·split at h
    ·cases h
     exact ⟨_,_,rfl,by simp only[*,if_true];rfl⟩
    ·cases h
   ·cases h
  ·split at h
   ·split at h
    ·rename_i hq
     cases h
     exact ⟨_,_,rfl,by simp only[*];rfl⟩
    ·cases h
   ·cases h
 ·cases h
theorem still_quiet {fi:FI} {x:Oper × Bool} (h:still x.1=true):quiet fi x=true:=by
 unfold still at h
 unfold quiet
 cases ho:x.1.op <;> rw [ho] at h <;> dsimp only at h ⊢ <;> first|rfl|(cases h;done)
theorem front_put2 {fi:FI} {k0:Nat} {ops:Array Oper} {K:AS→Prop} {i:Oper} {A B:List (Oper × Bool)} {s:AS} (he:isPut i=true) (hd:∀ a ∈ A,isDet a.1=true) (hq:∀ a ∈ A,still a.1=true) (hap:∀ a ∈ A,a.1.apart ops i=true)
  (h:ok (runF tt fi k0 ops A s) fun s1=>awpG ops i s1 (awp1 P tt fi k0 i s1 (awpD P tt fi k0 ops K B)) (awpD P tt fi k0 ops K B (s1.set i.dst (.tup [])))) :
  awpG ops i s (awp1 P tt fi k0 i s (awpD P tt fi k0 ops K (A ++ B))) (awpD P tt fi k0 ops K (A ++ B) (s.set i.dst (.tup []))):=by
 obtain ⟨s1,h1,h⟩:=h
 obtain ⟨dst,op,ty,p,af,g⟩:=i
 unfold isPut at he
 dsimp only at he
 split at he
 ·rename_i tt0 q v
  have hl:=runF_looks A s s1 hap h1
  rw [awpG_iff] at h ⊢
  rw [gst_congr hl] at h
  cases hg:gst ops ⟨none,.store tt0 q v,ty,p,af,g⟩ s with
  | none=>rw [hg] at h;exact h
  | some b =>
   rw [hg] at h
   cases b
   ·dsimp only at h ⊢
    exact (awpD_app A _ hd).2 ⟨_,h1,h⟩
   ·dsimp only at h ⊢
    obtain ⟨s',hs',hK⟩:=h
    have hev:=looks_ev hl
    have e1:s1.ev q=s.ev q:=hev q (by simp [Op.operands])
    have e2:s1.ev v=s.ev v:=hev v (by simp [Op.operands])
    rw [e1,e2] at hs'
    obtain ⟨hh,hb,_⟩:=still_run (B:=s.box) (h':=s.h) A s s1 hq h1
    obtain ⟨B',h',rfl,g2⟩:=aput_mem (t:=s) hh.symm hb.symm hs'
    exact ⟨s.mem B' h',g2,(awpD_app A _ hd).2 ⟨_,(still_run (B:=B') (h':=h') A s s1 hq h1).2.2,hK⟩⟩
 ·cases he
def lq (fi:FI) (d:Nat) (x:Oper × Bool):Bool:=still x.1 || (match x.1.op with
 | .load _ p=>x.2 && (match fi.slot p with
  | some d'=>d' != d
  | none=>false)
 | _=>false)
theorem lq_cases {fi:FI} {d:Nat} {x:Oper × Bool} (h:lq fi d x=true):still x.1=true ∨ ∃ t p d',x.1.op=.load t p∧x.2=true∧fi.slot p=some d'∧d' ≠ d:=by
 unfold lq at h
 rw [Bool.or_eq_true] at h
 rcases h with h|h
 ·exact .inl h
 ·right
  cases ho:x.1.op <;> rw [ho] at h <;> (try (cases h;done))
  rename_i t p
  dsimp only at h
  rw [Bool.and_eq_true] at h
  cases hs:fi.slot p with
  | none=>rw [hs] at h;cases h.2
  | some d'=>rw [hs] at h;exact ⟨t,p,d',rfl,h.1,hs,by simpa using h.2⟩
theorem lq_quiet {fi:FI} {d:Nat} {x:Oper × Bool} (h:lq fi d x=true):quiet fi x=true:=by
 rcases lq_cases h with h|⟨t,p,d',ho,hf,_,_⟩
 ·exact still_quiet h
 ·unfold quiet;rw [ho];exact hf
theorem lq_step {fi:FI} {k0:Nat} {ops:Array Oper} {d:Nat} {x:Oper × Bool} {s s1:AS} (hq:lq fi d x=true) (h:gstepF tt fi k0 ops x s=some s1) (B:Bid→Option (List AV)) (hB:∀ id,id.2 ≠ d→B id=s.box id) :
  s1.h=s.h∧s1.box=s.box∧gstepF tt fi k0 ops x (s.mem B s.h)=some (s1.mem B s.h):=by
 rcases lq_cases hq with hst|⟨t,p,d',ho,hfl2,hsl,hne⟩
 ·exact still_step hst h B s.h
 rw [gstepF_some] at h
 obtain ⟨h1,h2⟩:=h
 have hl:∀ d ∈ x.1.looksAt ops,(s.mem B s.h).tmp d=s.tmp d:=fun d hd=>rfl
 have hev:=looks_ev hl
 have hg:=gst_congr (ops:=ops) hl
 have hfl:=flag_congr (fi:=fi) (fl:=x.2) hl
 rcases gstep_form h1 with ⟨r,g1,g2,rfl⟩|⟨g1,rfl⟩
 ·have hf:=h2 g1
  have hrow:(s.mem B s.h).row (s.ev p)=s.row (s.ev p):=by
   unfold flagOk at hf
   rw [hfl2,ho] at hf
   dsimp only at hf
   rw [Bool.and_eq_true,hsl] at hf
   have hf:=hf.1
   unfold slotOk at hf
   cases hpv:s.ev p <;> rw [hpv] at hf <;> (try (cases hf;done))
   rename_i id j
   have hid:id.2=d':=by simpa using hf
   show (match B id with|some cs=>some (cs,j)|none=>none)=(match s.box id with|some cs=>some (cs,j)|none=>none)
   rw [hB id (by rw [hid];exact hne)]
  have hdr:dres tt fi k0 x.1 (s.mem B s.h)=dres tt fi k0 x.1 s:=dres_congr hev (fun t' p' hp=>by
   rw [ho] at hp
   injection hp with hp1 hp2
   rw [← hp2];exact hrow)
  have hlow:r.2=.none:=by
   unfold dres at g2
   rw [ho] at g2
   dsimp only at g2
   cases hx:aload (tt t) s (s.ev p) with
   | none=>rw [hx] at g2;cases g2
   | some z=>rw [hx] at g2;simp only[Option.map_some,Option.some.injEq] at g2;rw [← g2]
  obtain ⟨v,e⟩:=r
  dsimp only at hlow
  subst hlow
  refine ⟨by unfold ap;cases x.1.dst <;> rfl,by unfold ap;cases x.1.dst <;> rfl,gstepF_some.2 ⟨?_,fun _=>by rw [hfl];exact hf⟩⟩
  unfold gstep
  rw [hg,g1]
  simp only[hdr,g2,Option.map_some]
  unfold ap;cases x.1.dst <;> rfl
 ·refine ⟨AS.set_h _ _ _,by cases x.1.dst <;> rfl,gstepF_some.2 ⟨?_,fun e=>by rw [hg,g1] at e;cases e⟩⟩
  unfold gstep
  rw [hg,g1]
  cases x.1.dst <;> rfl
theorem lq_run {fi:FI} {k0:Nat} {ops:Array Oper} {d:Nat} {B:Bid→Option (List AV)}:∀ (A:List (Oper × Bool)) (s s1:AS),(∀ a ∈ A,lq fi d a=true)→(∀ id,id.2 ≠ d→B id=s.box id) →
  runF tt fi k0 ops A s=some s1→s1.h=s.h∧s1.box=s.box∧runF tt fi k0 ops A (s.mem B s.h)=some (s1.mem B s.h)
 | [],s,s1,_,_,h=>by
  simp only[runF,Option.some.injEq] at h
  subst h
  exact ⟨rfl,rfl,rfl⟩
 | a :: A,s,s1,hq,hB,h=>by
  simp only[runF] at h
  cases e:gstepF tt fi k0 ops a s with
  | none=>rw [e] at h;cases h
  | some sa =>
   rw [e] at h
   obtain ⟨g1,g1',g2⟩:=lq_step (hq a (by simp)) e B hB
   obtain ⟨g3,g3',g4⟩:=lq_run (B:=B) A sa s1 (fun x hx'=>hq x (by simp [hx'])) (fun id hid=>by rw [g1'];exact hB id hid) h
   rw [g1] at g4
   exact ⟨g3.trans g1,g3'.trans g1',by simp only[runF,g2];exact g4⟩
theorem aput_l {ti:TI} {s t s':AS} {id:Bid} {j:Nat} {v:AV} (hh:t.h=s.h) (hb:t.box=s.box) (h:aput ti s (.lptr id j) v=some s'):∃ B,(∀ i,i ≠ id→B i=s.box i)∧s'=s.mem B s.h∧aput ti t (.lptr id j) v=some (t.mem B s.h):=by
 obtain ⟨T1,B1,M1,H1⟩:=t
 obtain ⟨T2,B2,M2,H2⟩:=s
 dsimp only at hh hb
 subst hh hb
 unfold aput at h ⊢
 split at h
 ·rename_i hc
  rw [if_pos hc]
  dsimp only at h ⊢
  split at h
  ·split at h
   ·cases h
    exact ⟨_,fun i hi=>by unfold upd;rw [if_neg hi],rfl,by simp only[*,if_true];rfl⟩
   ·cases h
  ·cases h
 ·cases h
theorem front_lput {fi:FI} {k0:Nat} {ops:Array Oper} {K:AS→Prop} {i:Oper} {A B:List (Oper × Bool)} {s:AS} {d:Nat} (he:isPut i=true) (hsl:fi.pslot i=some d) (hd:∀ a ∈ A,isDet a.1=true) (hq:∀ a ∈ A,lq fi d a=true) (hap:∀ a ∈ A,a.1.apart ops i=true)
  (h:ok (runF tt fi k0 ops A s) fun s1=>awpG ops i s1 (flagOk fi true i s1=true∧awp1 P tt fi k0 i s1 (awpD P tt fi k0 ops K B)) (awpD P tt fi k0 ops K B (s1.set i.dst (.tup [])))) :
  awpG ops i s (awp1 P tt fi k0 i s (awpD P tt fi k0 ops K (A ++ B))) (awpD P tt fi k0 ops K (A ++ B) (s.set i.dst (.tup []))):=by
 obtain ⟨s1,h1,h⟩:=h
 obtain ⟨dst,op,ty,p,af,g⟩:=i
 unfold isPut at he
 dsimp only at he
 split at he
 ·rename_i tt0 q v
  have hl:=runF_looks A s s1 hap h1
  rw [awpG_iff] at h ⊢
  rw [gst_congr hl] at h
  cases hg:gst ops ⟨none,.store tt0 q v,ty,p,af,g⟩ s with
  | none=>rw [hg] at h;exact h
  | some b =>
   rw [hg] at h
   cases b
   ·dsimp only at h ⊢
    exact (awpD_app A _ hd).2 ⟨_,h1,h⟩
   ·dsimp only at h ⊢
    obtain ⟨hf,s',hs',hK⟩:=h
    have hev:=looks_ev hl
    have e1:s1.ev q=s.ev q:=hev q (by simp [Op.operands])
    have e2:s1.ev v=s.ev v:=hev v (by simp [Op.operands])
    unfold flagOk at hf
    dsimp only at hf
    rw [show fi.slot q=some d from hsl,e1] at hf
    dsimp only at hf
    unfold slotOk at hf
    rw [e1,e2] at hs'
    cases hq':s.ev q <;> rw [hq'] at hf <;> (try (cases hf;done))
    rename_i id j
    have hid:id.2=d:=by simpa using hf
    rw [hq'] at hs'
    obtain ⟨hh,hb,_⟩:=lq_run (B:=s.box) A s s1 hq (fun _ _=>rfl) h1
    obtain ⟨B',hB',rfl,g2⟩:=aput_l (t:=s) hh.symm hb.symm hs'
    rw [hh] at g2 hK
    refine ⟨s.mem B' s.h,by rw [hq'];exact g2,?_⟩
    exact (awpD_app A _ hd).2 ⟨_,(lq_run (B:=B') A s s1 hq (fun i hi=>by rw [hB' i (fun e=>hi (by rw [e];exact hid)),hb]) h1).2.2,hK⟩
 ·cases he
end Go.Av
namespace Go.Av
variable {P:Program} {tt:Nat→TI}
def edgeMask (M:List Nat):List Edge→Nat
 | []=>0
 | e :: es=>if Region.binds .any e then ((1 <<< e.on) ||| M.getD e.on 0) ||| edgeMask M es else edgeMask M es
theorem edgeMask_spec {M:List Nat} {a:Nat}:∀ (es:List Edge),(edgeMask M es).testBit a=true→∃ e ∈ es,Region.binds .any e=true∧(a=e.on ∨ (M.getD e.on 0).testBit a=true)
 | [],h=>by simp [edgeMask] at h
 | e :: es,h=>by
  unfold edgeMask at h
  split at h
  ·rename_i hb
   rw [Nat.testBit_or,Nat.testBit_or,Bool.or_eq_true,Bool.or_eq_true] at h
   rcases h with (h|h)|h
   ·refine ⟨e,by simp,hb,.inl ?_⟩
    rw [Nat.one_shiftLeft,Nat.testBit_two_pow] at h
    simpa using (of_decide_eq_true h).symm
   ·exact ⟨e,by simp,hb,.inr h⟩
   ·obtain ⟨e',h1,h2⟩:=edgeMask_spec es h
    exact ⟨e',by simp [h1],h2⟩
  ·obtain ⟨e',h1,h2⟩:=edgeMask_spec es h
   exact ⟨e',by simp [h1],h2⟩
def pairsB {α:Type} (f:α→α→Bool):List α→Bool
 | []=>true
 | x :: r=>r.all (f x) && pairsB f r
theorem pairsB_spec {α:Type} {f:α→α→Bool}:∀ (l:List α),pairsB f l=true→l.Pairwise fun x y=>f x y=true
 | [],_=>.nil
 | x :: r,h=>by
  simp only[pairsB,Bool.and_eq_true,List.all_eq_true] at h
  exact .cons h.1 (pairsB_spec r h.2)
def putq (fi:FI) (b:Oper) (x:Oper × Bool):Bool:=match fi.pslot b with
 | none=>quiet fi x
 | some d=>lq fi d x
theorem putq_quiet {fi:FI} {b:Oper} {x:Oper × Bool} (h:putq fi b x=true):quiet fi x=true:=by
 unfold putq at h
 cases hs:fi.pslot b with
 | none=>rw [hs] at h;exact h
 | some d=>rw [hs] at h;exact lq_quiet h
def pairOk (fi:FI) (ops:Array Oper) (M:List Nat) (x y:Nat × Bool):Bool:=match ops[x.1]?,ops[y.1]? with
 | some a,some b=>x.1 != y.1 && (match a.dst with|some d=>b.dst != some d|none=>true) &&
   ((M.getD y.1 0).testBit x.1 || (a.apart ops b && isDet a && (isDet b || (isEff b && quiet fi (a,x.2)) || (isPut b && y.2 && putq fi b (a,x.2)) || (isPut b && still a))))
 | _,_=>false
def idxOk (n:Nat) (ops:Array Oper) (M:List Nat) (i:Nat):Bool:=match ops[i]? with
 | some o=>M.getD i 0 == edgeMask M o.after.toList && o.after.toList.all (fun e=>!Region.binds .any e || decide (e.on < i)) && (match o.dst with|some d=>decide (d < n)|none=>true)
 | none=>false
def drawOk (fi:FI) (ops:Array Oper) (M:List Nat) (ord:List (Nat × Bool)):Bool :=
 (List.range ops.size).all (fun i=>(ord.map (·.1)).contains i && idxOk fi.n ops M i) && pairsB (pairOk fi ops M) ord && decide (ord.length=ops.size) && ord.all (fun x=>decide (x.1 < ops.size))
def oget (ops:Array Oper) (R:List (Nat × Bool)):List (Oper × Bool):=R.filterMap fun x=>(ops[x.1]?).map (·,x.2)
structure DI (fi:FI) (ops:Array Oper) (M:List Nat) (listed:Array Bool) (R:List (Nat × Bool)) (D:List Nat):Prop where
 pw:R.Pairwise fun x y=>pairOk fi ops M x y=true
 idx:∀ i < ops.size,idxOk fi.n ops M i=true
 size:listed.size=ops.size
 inR:∀ i < ops.size,listed.getD i true=false→∃ fl,(i,fl) ∈ R
 notL:∀ x ∈ R,x.1 < ops.size∧listed.getD x.1 true=false
 closed:∀ i o,ops[i]?=some o→listed.getD i true=true→∀ e ∈ o.after,Region.binds .any e=true→listed.getD e.on false=true
 fresh:∀ x ∈ R,∀ o,ops[x.1]?=some o→∀ d,o.dst=some d→d ∉ D
theorem idxOk_spec {n:Nat} {ops:Array Oper} {M:List Nat} {i:Nat} {o:Oper} (h:idxOk n ops M i=true) (ho:ops[i]?=some o) :
  M.getD i 0=edgeMask M o.after.toList∧(∀ e ∈ o.after,Region.binds .any e=true→e.on < i)∧∀ d,o.dst=some d→d < n:=by
 unfold idxOk at h
 rw [ho] at h
 simp only[Bool.and_eq_true,beq_iff_eq,List.all_eq_true,Bool.or_eq_true,Bool.not_eq_true',decide_eq_true_eq] at h
 refine ⟨h.1.1,fun e he hb=>?_,fun d hd=>?_⟩
 ·rcases h.1.2 e (by simpa using he) with h'|h'
  ·rw [hb] at h';cases h'
  ·exact h'
 ·have:=h.2;rw [hd] at this;simpa using this
theorem DI.before {fi:FI} {ops:Array Oper} {M:List Nat} {listed:Array Bool} {R:List (Nat × Bool)} {D:List Nat} (I:DI fi ops M listed R D):∀ (i:Nat) (o:Oper),ops[i]?=some o→(∀ e ∈ o.after,Region.binds .any e=true→listed.getD e.on false=true) →
  ∀ a,(M.getD i 0).testBit a=true→listed.getD a true=true:=by
 intro i
 induction i using Nat.strongRecOn with
 | _ i ih =>
  intro o ho hp a ha
  have hlt:i < ops.size:=(Array.getElem?_eq_some_iff.1 ho).1
  obtain ⟨h1,h2,_⟩:=idxOk_spec (I.idx i hlt) ho
  rw [h1] at ha
  obtain ⟨e,he,hb,hc⟩:=edgeMask_spec _ ha
  have he':e ∈ o.after:=by simpa using he
  have hl:=hp e he' hb
  have hlt':=h2 e he' hb
  have hl':listed.getD e.on true=true:=by
   have:e.on < listed.size:=by rw [I.size];omega
   simp [this] at hl ⊢;exact hl
  rcases hc with rfl|hc
  ·exact hl'
  ·have hsz:e.on < ops.size:=by omega
   exact ih e.on hlt' _ (Array.getElem?_eq_getElem hsz) (fun e'=>I.closed e.on _ (Array.getElem?_eq_getElem hsz) hl' e') a hc
theorem DI.ready {fi:FI} {ops:Array Oper} {M:List Nat} {listed:Array Bool} {R:List (Nat × Bool)} {D:List Nat} (I:DI fi ops M listed R D) (hR:R ≠ []):Region.ready .any ops listed ≠ []:=by
 have hex:∃ i,i < ops.size∧listed.getD i true=false:=by
  cases R with
  | nil=>exact absurd rfl hR
  | cons x r=>exact ⟨x.1,I.notL x (by simp)⟩
 obtain ⟨i,⟨hi,hl⟩,hmin⟩:=exists_min _ hex
 have hm:i ∈ Region.ready .any ops listed:=mem_ready.2 ⟨hl,_,Array.getElem?_eq_getElem hi,fun e he hb=>by
  have hlt:=(idxOk_spec (I.idx i hi) (Array.getElem?_eq_getElem hi)).2.1 e he hb
  have hlt':e.on < listed.size:=by rw [I.size];omega
  cases hv:listed.getD e.on true with
  | true=>simp [hlt'] at hv ⊢;exact hv
  | false=>exact absurd (hmin e.on ⟨by omega,hv⟩) (by omega)⟩
 intro h
 rw [h] at hm
 cases hm
theorem DI.step {fi:FI} {ops:Array Oper} {M:List Nat} {listed:Array Bool} {A B:List (Nat × Bool)} {i:Nat} {fl:Bool} {D:List Nat} {o:Oper} (I:DI fi ops M listed (A ++ (i,fl) :: B) D) (ho:ops[i]?=some o)
  (hp:∀ e ∈ o.after,Region.binds .any e=true→listed.getD e.on false=true):DI fi ops M (listed.setIfInBounds i true) (A ++ B) (o.dst.toList ++ D):=by
 have hlt:i < ops.size:=(Array.getElem?_eq_some_iff.1 ho).1
 have hpw:=I.pw
 rw [List.pairwise_append] at hpw
 obtain ⟨p1,p2,p3⟩:=hpw
 rw [List.pairwise_cons] at p2
 have hne:∀ x ∈ A ++ B,x.1 ≠ i∧(∀ ox d,ops[x.1]?=some ox→ox.dst=some d→o.dst ≠ some d):=by
  intro x hx
  have key:pairOk fi ops M x (i,fl)=true ∨ pairOk fi ops M (i,fl) x=true:=by
   rcases List.mem_append.1 hx with h|h
   ·exact .inl (p3 x h _ (by simp))
   ·exact .inr (p2.1 x h)
  rcases key with key|key
  ·unfold pairOk at key
   rw [ho] at key
   cases hx1:ops[x.1]? with
   | none=>rw [hx1] at key;cases key
   | some ox =>
    rw [hx1] at key
    simp only[Bool.and_eq_true,bne_iff_ne,ne_eq] at key
    refine ⟨key.1.1,fun ox' d e1 e2 e3=>?_⟩
    cases e1
    have:=key.1.2
    rw [e2] at this
    simp [e3] at this
  ·unfold pairOk at key
   rw [ho] at key
   cases hx1:ops[x.1]? with
   | none=>rw [hx1] at key;cases key
   | some ox =>
    rw [hx1] at key
    simp only[Bool.and_eq_true,bne_iff_ne,ne_eq] at key
    refine ⟨fun e=>key.1.1 e.symm,fun ox' d e1 e2 e3=>?_⟩
    cases e1
    have:=key.1.2
    rw [e3] at this
    simp [e2] at this
 have hset:∀ j,j ≠ i→∀ b,(listed.setIfInBounds i true).getD j b=listed.getD j b:=fun j hj b=>getD_set_ne b (Ne.symm hj)
 have hself:∀ b,(listed.setIfInBounds i true).getD i b=true:=fun b=>by
  have:i < listed.size:=by rw [I.size];exact hlt
  simp [this]
 refine ⟨?_,I.idx,by simp [I.size],fun j hj hl=>?_,fun x hx=>?_,fun j oj hoj hl e he hb=>?_,fun x hx ox hox d hd=>?_⟩
 ·rw [List.pairwise_append]
  exact ⟨p1,p2.2,fun x hx y hy=>p3 x hx y (by simp [hy])⟩
 ·have hji:j ≠ i:=by rintro rfl;rw [hself] at hl;cases hl
  rw [hset j hji] at hl
  obtain ⟨f,hf⟩:=I.inR j hj hl
  refine ⟨f,?_⟩
  rcases List.mem_append.1 hf with h|h
  ·exact List.mem_append.2 (.inl h)
  ·rcases List.mem_cons.1 h with h|h
   ·simp only[Prod.mk.injEq] at h;exact absurd h.1 hji
   ·exact List.mem_append.2 (.inr h)
 ·have:=I.notL x (by rcases List.mem_append.1 hx with h|h <;> simp [h])
  rw [hset _ (hne x hx).1]
  exact this
 ·by_cases hji:j=i
  ·subst hji
   rw [ho] at hoj;cases hoj
   have:=hp e he hb
   by_cases hei:e.on=j
   ·rw [hei];exact hself _
   ·rw [hset _ hei];exact this
  ·rw [hset j hji] at hl
   have:=I.closed j oj hoj hl e he hb
   by_cases hei:e.on=i
   ·rw [hei];exact hself _
   ·rw [hset _ hei];exact this
 ·rw [List.mem_append]
  rintro (h|h)
  ·rw [Option.mem_toList] at h
   exact (hne x hx).2 ox d hox hd h
  ·exact I.fresh x (by rcases List.mem_append.1 hx with h|h <;> simp [h]) ox hox d hd h
theorem oget_append (ops:Array Oper) (A B:List (Nat × Bool)):oget ops (A ++ B)=oget ops A ++ oget ops B:=by simp [oget,List.filterMap_append]
theorem oget_cons {ops:Array Oper} {i:Nat} {fl:Bool} {o:Oper} (ho:ops[i]?=some o) (B:List (Nat × Bool)):oget ops ((i,fl) :: B)=(o,fl) :: oget ops B:=by simp [oget,ho]
theorem mem_oget {ops:Array Oper} {A:List (Nat × Bool)} {x:Oper × Bool} (h:x ∈ oget ops A):∃ j,(j,x.2) ∈ A∧ops[j]?=some x.1:=by
 unfold oget at h
 obtain ⟨y,hy,he⟩:=List.mem_filterMap.1 h
 cases ho:ops[y.1]? with
 | none=>rw [ho] at he;cases he
 | some o =>
  rw [ho] at he
  simp only[Option.map_some,Option.some.injEq] at he
  subst he
  exact ⟨y.1,hy,ho⟩
theorem SR.noRef {c0:Cx} {h0:AH} {c:Cx} {lb:Bid→Option Nat} {s:AS} {n:Nat} {a:Act} (S:SR c0 h0 c lb s n a) {k0:Nat} {D:List Nat} (F:Fresh k0 c lb D) (p:Operand) {d:Nat} (hd:d ∉ D) :
  (∀ i j,s.ev p ≠ .ptr (k0,d) i j)∧(∀ j,s.ev p ≠ .lptr (k0,d) j)∧∀ m j,s.ev p ≠ .aptr (k0,d) m j:=by
 have he:=S.fr.ev p
 refine ⟨fun i j e=>?_,fun j e=>?_,fun m j e=>?_⟩
 ·rw [e] at he
  have he':VR c (.ptr (k0,d) i j) _:=he
  simp only[VR] at he'
  exact (F d hd).1 he'.1
 ·rw [e] at he
  obtain ⟨b,hb,_⟩:=he
  rw [(F d hd).2] at hb
  cases hb
 ·rw [e] at he
  have he':VR c (.aptr (k0,d) m j) _:=he
  simp only[VR] at he'
  exact (F d hd).1 he'.1
theorem SR.fresh {c0:Cx} {h0:AH} {c:Cx} {lb:Bid→Option Nat} {s:AS} {n:Nat} {a:Act} (S:SR c0 h0 c lb s n a) {k0:Nat} {D:List Nat} (F:Fresh k0 c lb D) {d:Nat} (hd:d ∉ D):s.h.at_ (k0,d)=none∧s.box (k0,d)=none:=by
 constructor
 ·cases h:s.h.at_ (k0,d) with
  | none=>rfl
  | some k=>exact absurd (S.hr.blk _ k h).1 (F d hd).1
 ·cases h:s.box (k0,d) with
  | none=>rfl
  | some cs =>
   obtain ⟨b,_,_,hb,_⟩:=S.fr.box _ cs h
   rw [(F d hd).2] at hb
   cases hb
theorem draw_sound (T:Tab P tt) {fi:FI} {k0:Nat} {r:Option Nat} {c0:Cx} {h0:AH} {ops:Array Oper} {M:List Nat} {K:AS→Prop} {Q:Exit→Act→World→Prop} (hk0:h0.clk≤k0)
  (hn:∀ c' lb' s' a',SR c0 h0 c' lb' s' fi.n a'→K s'→Q .normal a' c'.w):∀ (n:Nat) (R:List (Nat × Bool)) (D:List Nat) (listed:Array Bool),R.length=n→DI fi ops M listed R D →
   ∀ (c:Cx) (lb:Bid→Option Nat) (s:AS) (a:Act),SR c0 h0 c lb s fi.n a→Fresh k0 c lb D→k0 < s.h.clk→awpD P tt fi k0 ops K (oget ops R) s→wpAnyIn (FW r) 0 P .any ops Q n listed a c.w
 | 0,R,D,listed,hl,I,c,lb,s,a,S,hF,hk,h=>by
  obtain rfl:R=[]:=List.eq_nil_of_length_eq_zero hl
  refine ⟨?_,hn c lb s a S h⟩
  cases hr:Region.ready .any ops listed with
  | nil=>rfl
  | cons x xs =>
   have hm:x ∈ Region.ready .any ops listed:=by rw [hr];simp
   obtain ⟨h1,o,ho,_⟩:=mem_ready.1 hm
   obtain ⟨_,hf⟩:=I.inR x (Array.getElem?_eq_some_iff.1 ho).1 h1
   cases hf
 | n+1,R,D,listed,hl,I,c,lb,s,a,S,hF,hk,h=>by
  refine ⟨fun he=>absurd he (I.ready (by rintro rfl;cases hl)),fun i hi=>?_⟩
  obtain ⟨hun,o,ho,hp⟩:=mem_ready.1 hi
  have hlt:i < ops.size:=(Array.getElem?_eq_some_iff.1 ho).1
  obtain ⟨fl,hmem⟩:=I.inR i hlt hun
  obtain ⟨A,B,rfl⟩:=List.append_of_mem hmem
  have I':=I.step ho hp
  have hlen:(A ++ B).length=n:=by simp at hl ⊢;omega
  obtain ⟨_,_,hdn⟩:=idxOk_spec (I.idx i hlt) ho
  have hfr:∀ d,o.dst=some d→d ∉ D:=I.fresh (i,fl) (by simp) o ho
  have next:∀ c' lb' s' a',SR c0 h0 c' lb' s' fi.n a'→Fresh k0 c' lb' (o.dst.toList ++ D)→k0 < s'.h.clk→awpD P tt fi k0 ops K (oget ops (A ++ B)) s'→wpAnyIn (FW r) 0 P .any ops Q n (listed.setIfInBounds i true) a' c'.w :=
   fun c' lb' s' a' S' F' k' h'=>draw_sound T hk0 hn n (A ++ B) _ _ hlen I' c' lb' s' a' S' F' k' h'
  -- every one before it is free of it
  have hpw:=I.pw
  rw [List.pairwise_append] at hpw
  have hfree:∀ x ∈ A,∀ ox,ops[x.1]?=some ox→ox.apart ops o=true∧isDet ox=true∧(((isDet o=true ∨ isEff o=true∧quiet fi (ox,x.2)=true) ∨ (isPut o=true∧fl=true)∧putq fi o (ox,x.2)=true) ∨ (isPut o=true∧still ox=true)):=by
   intro x hx ox hox
   have hpo:=hpw.2.2 x hx (i,fl) (by simp)
   unfold pairOk at hpo
   rw [ho,hox] at hpo
   simp only[Bool.and_eq_true,Bool.or_eq_true] at hpo
   rcases hpo.2 with hb|hb
   ·have:=I.before i o ho hp x.1 hb
    rw [(I.notL x (by simp [hx])).2] at this
    cases this
   ·exact ⟨hb.1.1,hb.1.2,hb.2⟩
  have hA:∀ x ∈ oget ops A,x.1.apart ops o=true∧isDet x.1=true∧(((isDet o=true ∨ isEff o=true∧quiet fi x=true) ∨ (isPut o=true∧fl=true)∧putq fi o x=true) ∨ (isPut o=true∧still x.1=true)):=by
   intro x hx
   obtain ⟨j,hj,hoj⟩:=mem_oget hx
   exact hfree _ hj _ hoj
  have hfrA:∀ x ∈ oget ops A,∀ d,x.1.dst=some d→d ∉ D:=by
   intro x hx d hd
   obtain ⟨j,hj,hoj⟩:=mem_oget hx
   exact I.fresh _ (List.mem_append.2 (.inl hj)) _ hoj d hd
  have hG:awpG ops o s (awp1 P tt fi k0 o s (awpD P tt fi k0 ops K (oget ops (A ++ B)))) (awpD P tt fi k0 ops K (oget ops (A ++ B)) (s.set o.dst (.tup []))):=by
   rw [oget_append,oget_cons ho] at h
   rw [oget_append]
   have hdA:∀ x ∈ oget ops A,isDet x.1=true:=fun x hx=>(hA x hx).2.1
   cases hnil:oget ops A with
   | nil =>
    rw [hnil,List.nil_append] at h
    simp only[awpD] at h
    rw [List.nil_append,awpG_iff]
    rw [awpG_iff] at h
    cases hg:gst ops o s with
    | none=>rw [hg] at h;exact h
    | some b=>rw [hg] at h;exact (match b,h with|false,h=>h|true,h=>h.2)
   | cons x0 A0 =>
    rw [← hnil]
    rw [awpD_app _ _ hdA] at h
    by_cases hdet:isDet o=true
    ·obtain ⟨s1,h1,h2⟩:=h
     have h2':=(detF_iff (x:=(o,fl)) hdet).1 h2
     obtain ⟨s2,h3,h4⟩:=h2'
     obtain ⟨s',g1,g2⟩:=front_dd (i:=(o,fl)) _ s s1 s2 (fun x hx=>(hA x hx).1) (fun x hx t p hp d hd=>S.noRef hF p (hfrA x hx d hd)) (fun d hd=>S.fresh hF (hfr d hd)) h1 h3
     have:=(detF_iff (P:=P) (x:=(o,fl)) (K:=awpD P tt fi k0 ops K (oget ops A ++ oget ops B)) hdet).2 ⟨s',g1,(awpD_app _ _ hdA).2 ⟨s2,g2,h4⟩⟩
     rw [awpG_iff] at this ⊢
     cases hg:gst ops o s with
     | none=>rw [hg] at this;exact this
     | some b=>rw [hg] at this;exact (match b,this with|false,this=>this|true,this=>this.2)
    ·obtain ⟨s1,h1,h2⟩:=h
     by_cases heff:isEff o=true∧∀ x ∈ oget ops A,quiet fi x=true
     ·refine front_eff heff.1 hdA heff.2 (fun x hx=>(hA x hx).1) ?_
      refine ⟨s1,h1,?_⟩
      dsimp only
      simp only[awpD] at h2
      rw [awpG_iff] at h2 ⊢
      cases hg:gst ops o s1 with
      | none=>rw [hg] at h2;exact h2
      | some b=>rw [hg] at h2;exact (match b,h2 with|false,h2=>h2|true,h2=>h2.2)
     ·by_cases hstill:isPut o=true∧∀ x ∈ oget ops A,still x.1=true
      ·refine front_put2 hstill.1 hdA hstill.2 (fun x hx=>(hA x hx).1) ⟨s1,h1,?_⟩
       simp only[awpD] at h2
       rw [awpG_iff] at h2 ⊢
       cases hg:gst ops o s1 with
       | none=>rw [hg] at h2;exact h2
       | some b=>rw [hg] at h2;exact (match b,h2 with|false,h2=>h2|true,h2=>h2.2)
      ·have hput:(isPut o=true∧fl=true)∧(∀ x ∈ oget ops A,quiet fi x=true)∧¬ isEff o=true:=by
        have hall:∀ x ∈ oget ops A,quiet fi x=true:=by
         intro x hx
         rcases (hA x hx).2.2 with ((h'|h')|h')|h'
         ·exact absurd h' hdet
         ·exact h'.2
         ·exact putq_quiet h'.2
         ·exact still_quiet h'.2
        have hne:¬ isEff o=true:=fun h'=>heff ⟨h',hall⟩
        refine ⟨?_,hall,hne⟩
        cases hfl:fl with
        | true =>
         refine ⟨?_,rfl⟩
         rcases (hA x0 (by rw [hnil];simp)).2.2 with ((h'|h')|h')|h'
         ·exact absurd h' hdet
         ·exact absurd h'.1 hne
         ·exact h'.1.1
         ·exact h'.1
        | false =>
         have hst:∀ x ∈ oget ops A,isPut o=true∧still x.1=true:=by
          intro x hx
          rcases (hA x hx).2.2 with ((h'|h')|h')|h'
          ·exact absurd h' hdet
          ·exact absurd h'.1 hne
          ·rw [hfl] at h';cases h'.1.2
          ·exact h'
         exact absurd ⟨(hst x0 (by rw [hnil];simp)).1,fun x hx=>(hst x hx).2⟩ hstill
       obtain ⟨⟨hp1,hfl⟩,hp2,hne⟩:=hput
       subst hfl
       cases hps:fi.pslot o with
       | none =>
        refine front_put hp1 hps hdA hp2 (fun x hx=>(hA x hx).1) ⟨s1,h1,?_⟩
        simp only[awpD] at h2
        exact h2
       | some d =>
        have hlq:∀ x ∈ oget ops A,lq fi d x=true:=by
         intro x hx
         rcases (hA x hx).2.2 with ((h'|h')|h')|h'
         ·exact absurd h' hdet
         ·exact absurd h'.1 hne
         ·have:=h'.2;unfold putq at this;rw [hps] at this;exact this
         ·unfold lq;rw [h'.2,Bool.true_or]
        refine front_lput hp1 hps hdA hlq (fun x hx=>(hA x hx).1) ⟨s1,h1,?_⟩
        simp only[awpD] at h2
        exact h2
  have run_:awp1 P tt fi k0 o s (awpD P tt fi k0 ops K (oget ops (A ++ B)))→o.wpIn (FW r) 0 P a c.w (wpAnyIn (FW r) 0 P .any ops Q n (listed.setIfInBounds i true)) Q:=fun h1 =>
   op1_sound T S hF hk hk0 (fun d hd=>⟨hdn d hd,hfr d hd⟩) h1 next
  have skip_:awpD P tt fi k0 ops K (oget ops (A ++ B)) (s.set o.dst (.tup []))→wpAnyIn (FW r) 0 P .any ops Q n (listed.setIfInBounds i true) (a.put o.dst undef) c.w:=fun h1 =>
   next c lb _ _ (S.put VL_undef hdn) (hF.mono (fun d hd=>List.mem_append.2 (.inr hd))) (by rw [AS.set_h];exact hk) h1
  unfold wpOpIn
  simp only[ho]
  unfold awpG at hG
  cases hg:gst ops o s with
  | none=>rw [hg] at hG;exact hG.elim
  | some b =>
   rw [hg] at hG
   have hw:=gst_sound S.fr hg
   cases b
   ·rw [if_neg (by rw [hw];simp)]
    exact ⟨fun _ _=>trivial,skip_ (hG.2 rfl)⟩
   ·rw [if_pos hw]
    exact run_ (hG.1 rfl)
theorem SR.ticked {c0:Cx} {h0:AH} {c:Cx} {lb:Bid→Option Nat} {s:AS} {n:Nat} {a:Act} (S:SR c0 h0 c lb s n a):SR c0 h0 c lb { s with h:=s.h.tick (s.h.clk+1) } n a∧Fresh s.h.clk c lb []:=by
 refine ⟨⟨S.hr.tick (Nat.le_succ _),⟨S.fr.size,S.fr.tmps,S.fr.defers,S.fr.marks,S.fr.box,fun i b hb=>Nat.lt_succ_of_lt (S.fr.lbclk i b hb),S.fr.lbinj,S.fr.lbsize⟩,?_,S.new,S.dn,S.mnew⟩,?_⟩
 ·exact ⟨S.evo.le,Nat.le_succ_of_le S.evo.clk,S.evo.size,S.evo.keep,S.evo.imnew,S.evo.rwnew,S.evo.stay,S.evo.os,S.evo.out,S.evo.tape,S.evo.gl⟩
 ·intro d _
  refine ⟨fun hd=>Nat.lt_irrefl _ (S.hr.clk _ hd),?_⟩
  cases hl:lb (s.h.clk,d) with
  | none=>rfl
  | some b=>exact absurd (S.fr.lbclk _ b hl) (Nat.lt_irrefl _)
theorem ASem.draw {r:Option Nat} (T:Tab P tt) (hm:P.follows .mixedOrders=true) {fi:FI} {id:Nat} {ops:Array Oper} {Q:Exit→AS→Prop} {s:AS} {M:List Nat} {ord:List (Nat × Bool)} (hr:drawOk fi ops M ord=true)
  (h:awpD P tt fi s.h.clk ops (fun s'=>Q .normal s') (oget ops ord) { s with h:=s.h.tick (s.h.clk+1) }):ASem P r fi.n (.region id ops true) Q s:=by
 intro c0 h0 c lb a S
 unfold drawOk at hr
 simp only[Bool.and_eq_true,List.all_eq_true,List.mem_range,decide_eq_true_eq,List.contains_eq_mem] at hr
 obtain ⟨⟨⟨h1,h2⟩,h3⟩,h4⟩:=hr
 have hget:∀ i < ops.size,(Array.replicate ops.size false).getD i true=false:=fun i hi=>by simp [hi]
 obtain ⟨S1,hF⟩:=S.ticked
 refine wpIn_region_any hm (draw_sound T (M:=M) (K:=fun s'=>Q .normal s') (c:={ c with w:=c.w.drew }) S.evo.clk (fun c' lb' s' a' S' hK=>⟨c',lb',s',rfl,S',hK⟩) ops.size ord [] _ h3 ?_ lb _ a S1.drew hF (Nat.lt_succ_self _) h)
 refine ⟨pairsB_spec _ h2,fun i hi=>(h1 i hi).2,by simp,fun i hi _=>?_,fun x hx=>⟨h4 x hx,hget _ (h4 x hx)⟩,fun i o ho hl=>?_,fun x hx o ho d hd=>by simp⟩
 ·obtain ⟨x,hx,rfl⟩:=List.mem_map.1 (h1 i hi).1
  exact ⟨x.2,hx⟩
 ·rw [hget i (Array.getElem?_eq_some_iff.1 ho).1] at hl
  cases hl
end Go.Av
namespace Go.Av
variable {P:Program} {tt:Nat→TI}
def FI.look (fi:FI) (id:Nat):List Nat × List (Nat × Bool):=((fi.ord.find? fun x=>x.1 == id).map (·.2)).getD ([],[])
def FI.free (fi:FI) (id:Nat):Bool:=fi.imm.contains (id+1000000)
def awp (P:Program) (tt:Nat→TI) (fi:FI):Code→(Exit→AS→Prop)→AS→Prop
 | .skip,Q,s=>Q .normal s
 | .label _,Q,s=>Q .normal s
 | .ret,Q,s=>Q .ret s
 | .exit id,Q,s=>Q (.exit id) s
 | .region id ops draw,Q,s=>if fi.free id then ASem P fi.rnd fi.n (.region id ops draw) Q s else if draw then
   awpD P tt fi s.h.clk ops (fun s'=>Q .normal s') (oget ops (fi.look id).2) { s with h:=s.h.tick (s.h.clk+1) }
   else awpOps P tt fi s.h.clk ops (fun s'=>Q .normal s') ops.toList { s with h:=s.h.tick (s.h.clk+1) }
 | .seq a b,Q,s=>awp P tt fi a (thenA (fun s'=>awp P tt fi b Q s') Q) s
 | .cond x a b,Q,s=>match s.ev x with
  | .bool t=>condP t (awp P tt fi a Q s) (awp P tt fi b Q s)
  | _=>False
 | .block id a,Q,s=>awp P tt fi a (blockA id Q) s
 | code,Q,s=>ASem P fi.rnd fi.n code Q s
def codeOk (fi:FI):Code→Bool
 | .region id ops draw=>if fi.free id then true else if draw then drawOk fi ops (fi.look id).1 (fi.look id).2 else regOk fi.n ops.toList []
 | .seq a b=>codeOk fi a && codeOk fi b
 | .cond _ a b=>codeOk fi a && codeOk fi b
 | .block _ a=>codeOk fi a
 | _=>true
theorem awp_sound (T:Tab P tt) (hm:P.follows .mixedOrders=true) {fi:FI}:∀ (code:Code) (Q:Exit→AS→Prop) (s:AS),codeOk fi code=true→awp P tt fi code Q s→ASem P fi.rnd fi.n code Q s:=by
 intro code
 induction code with
 | skip=>exact fun Q s _ h=>ASem.skip h
 | label l=>exact fun Q s _ h=>ASem.label h
 | ret=>exact fun Q s _ h=>ASem.ret h
 | exit id=>exact fun Q s _ h=>ASem.exit h
 | region id ops draw =>
  intro Q s hk h
  unfold awp at h
  unfold codeOk at hk
  by_cases hft:fi.free id=true
  ·rw [hft] at h;exact h
  have hfr:fi.free id=false:=by simpa using hft
  rw [hfr] at h hk
  simp only[Bool.false_eq_true,if_false] at h hk
  cases draw
  ·exact ASem.region T (by simpa using hk) (by simpa using h)
  ·exact ASem.draw T hm (by simpa using hk) (by simpa using h)
 | seq a b iha ihb =>
  intro Q s hk h
  simp only[codeOk,Bool.and_eq_true] at hk
  refine ASem.seq ((iha _ s hk.1 h).mono ?_)
  intro e s' q
  cases e with
  | normal=>exact ihb Q s' hk.2 q
  | _=>exact q
 | cond x a b iha ihb =>
  intro Q s hk h
  simp only[codeOk,Bool.and_eq_true] at hk
  unfold awp at h
  split at h
  ·rename_i t ht
   exact ASem.cond ht ⟨fun e=>iha Q s hk.1 (h.1 e),fun e=>ihb Q s hk.2 (h.2 e)⟩
  ·exact h.elim
 | block id a iha=>exact fun Q s hk h=>ASem.block (iha _ s hk h)
 | loop c _=>exact fun Q s _ h=>h
 | rangeFunc f ps as b _ _=>exact fun Q s _ h=>h
 | scope c _=>exact fun Q s _ h=>h
 | goto l=>exact fun Q s _ h=>h
 | refuse w=>exact fun Q s _ h=>h
theorem ACalls.of (T:Tab P tt) (hm:P.follows .mixedOrders=true) {f:FuncId} {fn:Func} {code:Code} {fi:FI} {args:List AV} {h:AH} {Q:AV→AH→Prop} (he:Enters P f) (hf:P.funcs[f]?=some fn) (hb:fn.body=some code)
  (hfn:fi.n=fn.ntmps) (hfr:fi.rnd=none) (hn:args.length≤fi.n) (hk:codeOk fi code=true) (hw:awp P tt fi code (AEnd tt fn.results.toList Q) (startA args h)):ACalls P f args h Q:=by
 refine ⟨he,fun c xs H hv=>?_⟩
 refine callsIn_of_wp_marks hf hb trivial ?_
 rw [← hfn]
 have S:=startA_rel H hv hn
 have hw':=awp_sound T hm code _ _ hk hw
 rw [hfr] at hw'
 refine wpIn_mono (hw' c h c _ _ S) ?_
 rintro e a' w' ⟨c',lb',s',rfl,S',q⟩
 cases e with
 | normal =>
  show LeavesInM (FW none) 0 P fn a'.tmps (Ends c h Q) a'.defers .returning c'.w
  rw [S'.fr.defers]
  exact leaves_sound T (fi:=fi) _ S' rfl q
 | ret =>
  show LeavesInM (FW none) 0 P fn a'.tmps (Ends c h Q) a'.defers .returning c'.w
  rw [S'.fr.defers]
  exact leaves_sound T (fi:=fi) _ S' rfl q
 | exit id=>exact q.elim
 | goto l=>exact q.elim
 | panic ch=>exact q.elim
 | outgrown=>exact q.elim
end Go.Av
namespace Go.Av
variable {P:Program} {tt:Nat→TI}
theorem HRel.lpSet {c:Cx} {h:AH} (H:HRel c h) {l:Nat} {r0:LRec} (hl:h.lp l=some r0) {w':World} (rc:Loop) (hw:w'.heap[l]?=some (.loop rc)) (hold:∀ i,i ≠ l→w'.heap[i]?=c.w.heap[i]?) (hs:w'.heap.size=c.w.heap.size)
  (ho:w'.os=c.w.os) (hou:w'.output=c.w.output) (ht:w'.tape=c.w.tape) (r:Option LRec) (hr:∀ x,r=some x→x.mp=none∧x.rc=rc∧∀ t,VR c (x.tmp t) (rc.tmps.getD t undef)) :
  HRel { c with w:=w' } (h.lpSet l r)∧Evo c h { c with w:=w' } (h.lpSet l r):=by
 have hli:¬ c.im l:=H.lpim l r0 hl
 have hle:c.Le { c with w:=w' }:=⟨fun _ h=>h,fun _ _=>rfl,fun _ h=>h,fun i hi=>hold i (fun e=>hli (e ▸ hi))⟩
 have hne:∀ a k,h.at_ a=some k→(c.fm a).blk ≠ l:=fun a k ha=>H.lpat a k l r0 ha hl
 have at_:∀ i x,(h.lpSet l r).lp i=some x→(i=l∧r=some x) ∨ (i ≠ l∧h.lp i=some x):=by
  intro i x hx
  simp only[AH.lpSet,upd_apply] at hx
  split at hx
  ·exact .inl ⟨by assumption,hx⟩
  ·exact .inr ⟨by assumption,hx⟩
 refine ⟨⟨H.clk,fun a k ha=>(H.blk a k ha).mono hle (hold _ (hne a k ha)),H.inj,H.im,fun i hi=>by rw [hs];exact H.imlt i hi,?_,?_,fun a k i x ha hx=>(at_ i x hx).elim (fun e=>by rw [e.1];exact hne a k ha) (fun e=>H.lpat a k i x ha e.2),H.gl.mono hle⟩,⟨hle,Nat.le_refl _,by rw [hs];exact Nat.le_refl _,fun i _ hn=>hold i (fun e=>hn (.inr ⟨r0,e ▸ hl⟩)),fun _ h=>.inl h,?_,fun _ k h _=>⟨k,h⟩,ho,hou,ht,rfl⟩⟩
 ·intro i x hx
  rcases at_ i x hx with ⟨rfl,hx'⟩|⟨hi,hx⟩
  ·obtain ⟨em,e,hv⟩:=hr x hx'
   exact LP.of em ⟨by rw [e];exact hw,fun t=>by rw [e];exact VR.mono hle _ _ (hv t)⟩
  ·exact (H.lp i x hx).mono hle (hold i hi)
 ·intro i x hx
  rcases at_ i x hx with ⟨rfl,_⟩|⟨_,hx⟩
  ·exact hli
  ·exact H.lpim i x hx
 ·rintro i (⟨a,k,ha,rfl⟩|⟨x,hx⟩)
  ·exact .inr (.inl ⟨a,k,ha,rfl⟩)
  ·rcases at_ i x hx with ⟨rfl,_⟩|⟨_,hx⟩
   ·exact .inr (.inr ⟨r0,hl⟩)
   ·exact .inr (.inr ⟨x,hx⟩)
theorem run_getLoop {w:World} {l:Nat} {r:Loop} (h:w.heap[l]?=some (.loop r)):(Instr.getLoop l).run P w=.ok r w:=by
 simp [Instr.getLoop,getObj,Sem.run,h]
def World.lset (w:World) (l:Nat) (r:Loop):World:={ w with heap:=w.heap.setIfInBounds l (.loop r) }
theorem lset_same {w:World} {l:Nat} {r0 r:Loop} (h:w.heap[l]?=some (.loop r0)):(World.lset w l r).heap[l]?=some (.loop r):=by
 have:=(Array.getElem?_eq_some_iff.1 h).1
 simp [World.lset,Array.getElem?_setIfInBounds,this]
theorem lset_ne {w:World} {l i:Nat} {r:Loop} (h:i ≠ l):(World.lset w l r).heap[i]?=w.heap[i]?:=by
 simp only[World.lset,Array.getElem?_setIfInBounds,if_neg (Ne.symm h)]
theorem run_setLoop {w:World} {l:Nat} {r0 r:Loop} (h:w.heap[l]?=some (.loop r0)):(setObj l (.loop r)).run P w=.ok () (World.lset w l r):=by
 simp [setObj,Sem.run,h,World.lset]
theorem run_beginRound {w:World} {l:Nat} {r:Loop} (h:w.heap[l]?=some (.loop r)) (hs:r.state=.ready):(Instr.beginRound l).run P w=.ok () (World.lset w l { r with state:=.busy }):=by
 simp only[Instr.beginRound,Sem.run_bind,run_getLoop h,Result.andThen_ok,run_setLoop h,hs]
 rfl
theorem run_endRound {w:World} {l:Nat} {r:Loop} (h:w.heap[l]?=some (.loop r)) (j:Option Code) :
  (Instr.endRound l j).run P w=.ok (.bool j.isNone) (World.lset w l { r with state:=if j.isNone then .ready else .done,pending:=j }):=by
 simp only[Instr.endRound,Sem.run_bind,run_getLoop h,Result.andThen_ok,run_setLoop h]
 rfl
theorem run_endLoop {w:World} {l:Nat} {r:Loop} (h:w.heap[l]?=some (.loop r)) (hs:r.state ≠ .busy):(Instr.endLoop l).run P w=.ok r.pending (World.lset w l { r with state:=.exhausted }):=by
 have:(r.state == LoopState.busy)=false:=by cases hr:r.state <;> first|rfl|exact absurd hr hs
 simp only[Instr.endLoop,Sem.run_bind,run_getLoop h,Result.andThen_ok,this,Bool.false_eq_true,if_false,run_setLoop h,Sem.run_pure]
def hide (f:Nat→AV):Nat→AV:=fun t=>if noL (f t)=true then f t else .undef
def roundA (T:Nat→AV) (ps:List Nat) (args:List AV) (h:AH):AS:={ tmp:=(ps.zip args).foldl (fun f p=>upd f p.1 p.2) T,box:=fun _=>none,mks:=[],h:=h }
def RQ (l:Nat) (Q:AV→AH→Prop):Exit→AS→Prop:=fun e s =>
 let go:=fun (j:Option Code)=>∃ x,s.h.lp l=some x∧x.mp=none∧Q (.bool j.isNone) (s.h.lpSet l (some ⟨{ x.rc with state:=if j.isNone then .ready else .done,pending:=j },x.tmp,none⟩))
 match e with
 | .normal=>go none
 | .ret=>go (some .ret)
 | .exit id=>go (some (.exit id))
 | _=>False
theorem foldl_upd {c:Cx}:∀ (ps:List Nat) (args:List AV) (xs:List Value) (T:Nat→AV) (tm:Array Value),VRs c args xs→(∀ t,VR c (T t) (tm.getD t undef))→(∀ p ∈ ps,p < tm.size) →
  (∀ t,VR c (((ps.zip args).foldl (fun f p=>upd f p.1 p.2) T) t) (((ps.zip xs).foldl (fun tm p=>tm.setIfInBounds p.1 p.2) tm).getD t undef))∧((ps.zip xs).foldl (fun tm p=>tm.setIfInBounds p.1 p.2) tm).size=tm.size
 | [],args,xs,T,tm,_,ht,_=>by simpa using ht
 | p :: ps,[],xs,T,tm,hv,ht,_=>by
  simp only[VRs] at hv
  subst hv
  simpa using ht
 | p :: ps,v :: args,xs,T,tm,hv,ht,hp=>by
  simp only[VRs] at hv
  obtain ⟨x,xs',rfl,hx,hv⟩:=hv
  simp only[List.zip_cons_cons,List.foldl_cons]
  have:=foldl_upd ps args xs' (upd T p v) (tm.setIfInBounds p x) hv (fun t=>?_) (fun q hq=>by simpa using hp q (by simp [hq]))
  ·refine ⟨this.1,this.2.trans (by simp)⟩
  ·have hlt:=hp p (by simp)
   by_cases htp:t=p
   ·subst htp
    rw [upd_same,show (tm.setIfInBounds t x).getD t undef=x by simp [Array.getD,hlt]]
    exact hx
   ·rw [upd_ne _ _ htp,show (tm.setIfInBounds p x).getD t undef=tm.getD t undef by simp [Array.getD_eq_getD_getElem?,Array.getElem?_setIfInBounds,Ne.symm htp]]
    exact ht t
theorem AYields.of {l n:Nat} {args:List AV} {h:AH} {Q:AV→AH→Prop} {R:LRec} (hl:h.lp l=some R) (hmp:R.mp=none) (hst:R.rc.state=.ready) (hps:R.rc.params.size=args.length) (hn:R.rc.tmps.size=n) (hpn:∀ p ∈ R.rc.params.toList,p < n)
  (hw:ASem P (some l) n R.rc.assign (thenA (fun s1=>∃ r1,s1.h.lp l=some r1∧r1.mp=none∧r1.rc.state=.ready ∧
   ASem P (some l) n R.rc.body (RQ l Q) { s1 with h:=s1.h.lpSet l (some ⟨{ r1.rc with state:=.busy },r1.tmp,none⟩) }) (fun _ _=>False)) (roundA R.tmp R.rc.params.toList args h)):AYields P l args h Q:=by
 intro c xs H hv
 have hL:=(H.lp l R hl).loop hmp
 have hlen:=hv.length
 refine ⟨R.rc.fn,(R.rc.params.zip xs.toArray).foldl (fun tmps (t,a)=>tmps.setIfInBounds t a) R.rc.tmps,R.rc.assign,R.rc.body,?_,?_⟩
 ·have:¬ (xs.toArray.size ≠ R.rc.params.size):=by simp;omega
  simp only[Instr.yield,Sem.run_bind,run_getLoop hL.1,Result.andThen_ok,if_neg this]
  rfl
 ·have hf:=foldl_upd R.rc.params.toList args xs R.tmp R.rc.tmps hv hL.2 (fun p hp=>by rw [hn];exact hpn p hp)
  have hz:(R.rc.params.zip xs.toArray).foldl (fun tmps (t,a)=>tmps.setIfInBounds t a) R.rc.tmps=(R.rc.params.toList.zip xs).foldl (fun tm p=>tm.setIfInBounds p.1 p.2) R.rc.tmps:=by
   rw [← Array.foldl_toList,Array.toList_zip]
  refine roundIn_of_wpIn trivial ?_
  rw [hz]
  have S:SR c h c (fun _=>none) (roundA R.tmp R.rc.params.toList args h) n { tmps:=(R.rc.params.toList.zip xs).foldl (fun tm p=>tm.setIfInBounds p.1 p.2) R.rc.tmps,defers:=[] }:=by
   refine ⟨H,⟨by rw [hf.2,hn],fun t=>(hf.1 t).vl _,rfl,⟨List.nodup_nil,by simp [roundA]⟩,by simp [roundA],by simp,by simp,by simp⟩,Evo.refl c h,by simp,fun _ h=>.inl h,by simp [roundA]⟩
  refine wpIn_mono (hw c h c _ _ S) ?_
  rintro e a1 w1 ⟨c1,lb1,s1,rfl,S1,q⟩
  cases e with
  | normal =>
   obtain ⟨r1,hr1,hm1,hrs,hb⟩:=q
   have hL1:=(S1.hr.lp l r1 hr1).loop hm1
   refine ⟨_,run_beginRound hL1.1 hrs,?_⟩
   obtain ⟨H2,E2⟩:=S1.hr.lpSet hr1 (w':=World.lset c1.w l { r1.rc with state:=.busy }) { r1.rc with state:=.busy } (lset_same hL1.1) (fun i hi=>lset_ne hi) (by simp [World.lset]) rfl rfl rfl (some ⟨{ r1.rc with state:=.busy },r1.tmp,none⟩)
    (fun x hx=>by cases hx;exact ⟨rfl,rfl,hL1.2⟩)
   have S2:=S1.go H2 E2 (fun _ h=>.inl h)
   refine wpIn_mono (hb c h _ lb1 a1 S2) ?_
   rintro e a2 w2 ⟨c2,lb2,s2,rfl,S2,q⟩
   have fin_:∀ (j:Option Code),(∃ x,s2.h.lp l=some x∧x.mp=none∧Q (.bool j.isNone) (s2.h.lpSet l (some ⟨{ x.rc with state:=if j.isNone then .ready else .done,pending:=j },x.tmp,none⟩))) →
     ∃ v w',(Instr.endRound l j).run P c2.w=.ok v w'∧Ends c h Q (.returned v) w':=by
    rintro j ⟨x,hx,hm2,hq⟩
    have hL2:=(S2.hr.lp l x hx).loop hm2
    obtain ⟨H3,E3⟩:=S2.hr.lpSet hx (w':=World.lset c2.w l { x.rc with state:=if j.isNone then .ready else .done,pending:=j }) _ (lset_same hL2.1) (fun i hi=>lset_ne hi) (by simp [World.lset]) rfl rfl rfl
     (some ⟨{ x.rc with state:=if j.isNone then .ready else .done,pending:=j },x.tmp,none⟩) (fun y hy=>by cases hy;exact ⟨rfl,rfl,hL2.2⟩)
    exact ⟨_,_,run_endRound hL2.1 j,_,_,_,_,rfl,rfl,by simp only[VR],H3,S2.evo.trans E3,S2.dn,hq⟩
   cases e with
   | normal=>exact fin_ none q
   | ret=>exact fin_ (some .ret) q
   | exit id=>exact fin_ (some (.exit id)) q
   | goto t=>exact q.elim
   | panic ch=>exact q.elim
   | outgrown=>exact q.elim
  | exit id=>exact q.elim
  | goto t=>exact q.elim
  | ret=>exact q.elim
  | panic ch=>exact q.elim
  | outgrown=>exact q.elim
end Go.Av
namespace Go.Av
variable {P:Program} {tt:Nat→TI}
theorem HRel.newLoop {c:Cx} {h:AH} (H:HRel c h) (rc:Loop) (T:Nat→AV) (hT:∀ t,VR c (T t) (rc.tmps.getD t undef)) :
  HRel { c with w:=c.w.alloc (.loop rc) } (h.lpSet c.w.heap.size (some ⟨rc,T,none⟩))∧Evo c h { c with w:=c.w.alloc (.loop rc) } (h.lpSet c.w.heap.size (some ⟨rc,T,none⟩)):=by
 have hold:∀ b,b < c.w.heap.size→(c.w.alloc (.loop rc)).heap[b]?=c.w.heap[b]?:=fun b hb=>heap_alloc_old' c.w _ b hb
 have hnew:(c.w.alloc (.loop rc)).heap[c.w.heap.size]?=some (.loop rc):=heap_alloc_new c.w _
 have hle:c.Le { c with w:=c.w.alloc (.loop rc) }:=⟨fun _ h=>h,fun _ _=>rfl,fun _ h=>h,fun b hb=>hold b (H.imlt b hb)⟩
 have at_:∀ i x,(h.lpSet c.w.heap.size (some ⟨rc,T,none⟩)).lp i=some x→(i=c.w.heap.size∧x=⟨rc,T,none⟩) ∨ (i ≠ c.w.heap.size∧h.lp i=some x):=by
  intro i x hx
  simp only[AH.lpSet,upd_apply] at hx
  split at hx
  ·exact .inl ⟨by assumption,by cases hx;rfl⟩
  ·exact .inr ⟨by assumption,hx⟩
 refine ⟨⟨H.clk,fun a k ha=>(H.blk a k ha).mono hle (hold _ (RW.lt H (.inl ⟨a,k,ha,rfl⟩))),H.inj,H.im,fun i hi=>Nat.lt_of_lt_of_le (H.imlt i hi) (by simp),?_,?_,fun a k i x ha hx=>(at_ i x hx).elim (fun e=>by rw [e.1];exact Nat.ne_of_lt (RW.lt H (.inl ⟨a,k,ha,rfl⟩))) (fun e=>H.lpat a k i x ha e.2),H.gl.mono hle⟩,⟨hle,Nat.le_refl _,by simp,fun i hi _=>hold i hi,fun _ h=>.inl h,?_,fun _ k h _=>⟨k,h⟩,rfl,rfl,rfl,rfl⟩⟩
 ·intro i x hx
  rcases at_ i x hx with ⟨rfl,rfl⟩|⟨hi,hx⟩
  ·exact LP.of rfl ⟨hnew,fun t=>VR.mono hle _ _ (hT t)⟩
  ·exact (H.lp i x hx).mono hle (hold i (RW.lt H (.inr ⟨x,hx⟩)))
 ·intro i x hx
  rcases at_ i x hx with ⟨rfl,_⟩|⟨_,hx⟩
  ·exact fun hi=>absurd (H.imlt _ hi) (Nat.lt_irrefl _)
  ·exact H.lpim i x hx
 ·rintro i (⟨a,k,ha,rfl⟩|⟨x,hx⟩)
  ·exact .inr (.inl ⟨a,k,ha,rfl⟩)
  ·rcases at_ i x hx with ⟨rfl,_⟩|⟨_,hx⟩
   ·exact .inl (Nat.le_refl _)
   ·exact .inr (.inr ⟨x,hx⟩)
theorem run_newObj (w:World) (o:Obj):(newObj o).run P w=.ok w.heap.size (w.alloc o):=by
 simp only[newObj,Sem.run]
 rfl
theorem hide_rel {c:Cx} {lb:Bid→Option Nat} {s:AS} {n:Nat} {a:Act} (F:FRel c lb s n a) (t:Nat):VR c (hide s.tmp t) (a.tmps.getD t undef):=by
 unfold hide
 split
 ·rename_i h;exact (F.tmps t).vr h
 ·simp only[VR]
def rec0 (fn:FuncId) (tm:Array Value) (ps:Array Tmp) (assign body:Code) (D:Nat):Loop:={ state:=.ready,pending:=none,fn,tmps:=tm,params:=ps,assign,body,defers:=D }
def LQ (P:Program) (r:Option Nat) (n:Nat) (l:Nat) (s:AS) (mks:List Nat) (Q:Exit→AS→Prop) (h':AH):Prop :=
 ∃ x,h'.lp l=some x∧x.mp=none∧x.rc.state ≠ .busy∧match x.rc.pending with
  | none=>Q .normal { s with mks:=mks,h:=h'.lpSet l none }
  | some c=>ASem P r n c Q { s with mks:=mks,h:=h'.lpSet l none }
set_option maxHeartbeats 2000000 in
theorem ASem.rangeFunc {n:Nat} {g:Operand} {ps:Array Tmp} {assign body:Code} {Q:Exit→AS→Prop} {s:AS} {gf:FuncId} {first cap:List AV} (hg:s.ev g=.fn (.func gf) first cap)
  (h:∀ (l D:Nat) (fn:FuncId) (tm:Array Value),tm.size=n→s.h.lp l=none→D ∉ s.mks →
   ACalls P gf (first ++ [.fn (.yield l) [] []] ++ cap) (s.h.lpSet l (some ⟨rec0 fn tm ps assign body D,hide s.tmp,none⟩)) (fun _ h'=>LQ P none n l s (D :: s.mks) Q h')):ASem P none n (.rangeFunc g ps assign body) Q s:=by
 intro c0 h0 c lb a S
 refine wpIn_rangeFunc ?_
 intro fn _
 have hf:=S.fr.ev g
 rw [hg] at hf
 have hf':VR c (.fn (.func gf) first cap) (a.eval g):=hf
 simp only[VR] at hf'
 obtain ⟨xs,ys,hfe,h1,h2⟩:=hf'
 -- the block of deferred calls
 have Hd:HRel { c with w:=c.w.alloc (.deferred (some [])) } s.h:=S.hr.world (by simp) (fun b hb=>heap_alloc_old' c.w _ b (hb.elim (RW.lt S.hr) (S.hr.imlt b)))
 have Ed:Evo c s.h { c with w:=c.w.alloc (.deferred (some [])) } s.h:=Evo.world S.hr (by simp) (fun b hb=>heap_alloc_old' c.w _ b hb) rfl rfl rfl
 have S1:=S.go (h':=s.h) Hd Ed (fun _ h=>.inl h)
 have hDnew:(c.w.alloc (.deferred (some []))).heap[c.w.heap.size]?=some (.deferred (some [])):=heap_alloc_new c.w _
 have hDm:c.w.heap.size ∉ s.mks:=fun hm=>by
  have:=(S.fr.marks.2 _ hm).1
  rw [Array.getElem?_eq_none (Nat.le_refl _)] at this
  cases this
 have hDim:¬ c.im c.w.heap.size:=fun hi=>absurd (S.hr.imlt _ hi) (Nat.lt_irrefl _)
 have S1':SR c0 h0 { c with w:=c.w.alloc (.deferred (some [])) } lb { s with mks:=c.w.heap.size :: s.mks } n { a with defers:={ target:=.collected c.w.heap.size,args:=#[] } :: a.defers }:=by
  refine ⟨S1.hr,⟨S1.fr.size,S1.fr.tmps,by show _ :: a.defers=_;rw [S1.fr.defers];rfl,⟨List.nodup_cons.2 ⟨hDm,S1.fr.marks.1⟩,fun r hr=>?_⟩,S1.fr.box,S1.fr.lbclk,S1.fr.lbinj,S1.fr.lbsize⟩,S1.evo,S1.new,S1.dn,fun m hm=>?_⟩
  ·rcases List.mem_cons.1 hr with rfl|hr
   ·exact ⟨hDnew,hDim⟩
   ·exact S1.fr.marks.2 r hr
  ·rcases List.mem_cons.1 hm with rfl|hm
   ·exact S.evo.size
   ·exact S1.mnew m hm
 -- the record
 obtain ⟨l,hl⟩:∃ l,l=(c.w.alloc (.deferred (some []))).heap.size:=⟨_,rfl⟩
 obtain ⟨H2,E2⟩:=HRel.newLoop S1'.hr (rec0 fn a.tmps ps assign body c.w.heap.size) (hide s.tmp) (fun t=>hide_rel S1.fr t)
 have S2:=S1'.go H2 E2 (fun _ h=>.inl h)
 have hlp:s.h.lp l=none:=by
  cases hx:s.h.lp l with
  | none=>rfl
  | some x =>
   obtain ⟨o,ho⟩:=(S1.hr.lp l x hx).obj
   have:=(Array.getElem?_eq_some_iff.1 ho).1
   rw [hl] at this
   exact absurd this (Nat.lt_irrefl _)
 have hcall:=h l c.w.heap.size fn a.tmps S.fr.size hlp hDm
 have hall:VRs { c with w:=(c.w.alloc (.deferred (some []))).alloc (.loop (rec0 fn a.tmps ps assign body c.w.heap.size)) } (first ++ [.fn (.yield l) [] []] ++ cap) (xs ++ [Value.func (.yield l) #[] #[]] ++ ys):=by
  have hle:=(Ed.trans E2).le
  refine ((VRs.mono hle _ _ h1).append (VRs.cons ?_ VRs.nil)).append (VRs.mono hle _ _ h2)
  simp only[VR]
  exact ⟨[],[],rfl,VRs.nil,VRs.nil⟩
 obtain ⟨W2,hW2⟩:∃ W2,W2=(c.w.alloc (.deferred (some []))).alloc (.loop (rec0 fn a.tmps ps assign body c.w.heap.size)):=⟨_,rfl⟩
 have e1:(Instr.enterLoop fn a.tmps ps assign body none).run P c.w=.ok (l,[{ target:=.collected c.w.heap.size,args:=#[] }]) W2:=by
  rw [hW2,hl]
  simp only[Instr.enterLoop,Sem.run_bind,run_newObj,Result.andThen_ok,Sem.run_pure,rec0]
 have e2:(resolve a.eval (rangeCall g l) 0).run P W2=.ok { target:=.fn (.func gf) ys.toArray,args:=xs.toArray ++ #[Value.func (.yield l) #[] #[]] } W2:=by
  unfold resolve
  simp only[Deferred.ofValue,hfe]
  simp [Act.eval]
 have e3:(invoke (.fn (.func gf) ys.toArray) (xs.toArray ++ #[Value.func (.yield l) #[] #[]])).run P W2=.ok (.enter gf (xs ++ [Value.func (.yield l) #[] #[]] ++ ys).toArray) W2:=by
  simp only[invoke]
  rw [show (xs.toArray ++ #[Value.func (.yield l) #[] #[]] ++ ys.toArray)=(xs ++ [Value.func (.yield l) #[] #[]] ++ ys).toArray by simp]
  exact hcall.1 _ _
 rw [← hW2] at H2 S2 hall
 rw [← hl] at H2 S2
 refine ⟨l,_,W2,_,W2,gf,_,W2,e1,e2,fun _ _=>trivial,e3,fun h=>by simp at h,(hcall.2 _ _ H2 hall).mono ?_⟩
 rintro e w' ⟨v,x,c',h',rfl,rfl,hx,H',E,hdn,lr,hlr,hmp,hst,hq⟩
 have S3:=S2.go H' E (fun b hb=>(hdn b hb).imp id (fun h=>Nat.le_trans S.evo.clk h))
 have hL:=(H'.lp _ lr hlr).loop hmp
 have hrun:=run_endLoop (P:=P) hL.1 hst
 have hsame:(World.lset c'.w l { lr.rc with state:=.exhausted }).heap[l]?=some (.loop { lr.rc with state:=.exhausted }):=lset_same hL.1
 have hrest:∀ i,i ≠ l→(World.lset c'.w l { lr.rc with state:=.exhausted }).heap[i]?=c'.w.heap[i]?:=fun i hi=>lset_ne hi
 obtain ⟨w4,hw4⟩:∃ w4,w4=World.lset c'.w l { lr.rc with state:=.exhausted }:=⟨_,rfl⟩
 have hsz4:w4.heap.size=c'.w.heap.size:=by rw [hw4];simp [World.lset]
 have ho4:w4.os=c'.w.os∧w4.output=c'.w.output∧w4.tape=c'.w.tape:=by rw [hw4];exact ⟨rfl,rfl,rfl⟩
 rw [← hw4] at hrun hsame hrest
 obtain ⟨H4,E4⟩:=H'.lpSet hlr (w':=w4) _ hsame hrest hsz4 ho4.1 ho4.2.1 ho4.2.2 none (fun _ h=>by cases h)
 have S4:=S3.go H4 E4 (fun _ h=>.inl h)
 refine ⟨_,_,hrun,?_⟩
 cases hp:lr.rc.pending with
 | none=>rw [hp] at hq;exact ⟨_,lb,_,rfl,S4,hq⟩
 | some cd=>rw [hp] at hq;exact hq c0 h0 _ lb _ S4
end Go.Av
namespace Go.Av
variable {P:Program} {tt:Nat→TI}
mutual
def frz (b:Bid) (k:Blk):AV→AV
 | .slc b' e i n=>if b'=b∧i+n≤k.es.length then .lst e ((k.es.drop i).take n) else .slc b' e i n
 | .ptr b' i j=>if b'=b∧i < k.es.length then .iptr (k.es.getD i []) j else .ptr b' i j
 | .iptr cs j=>.iptr (frzs b k cs) j
 | .lst e es=>.lst e (frzss b k es)
 | .agg cs=>.agg (frzs b k cs)
 | .tup cs=>.tup (frzs b k cs)
 | .fn f first cap=>.fn f (frzs b k first) (frzs b k cap)
 | .undef=>.undef
 | .bool x=>.bool x
 | .int k n=>.int k n
 | .str s=>.str s
 | .nilp=>.nilp
 | .lptr t j=>.lptr t j
 | .nils=>.nils
 | .nilfn=>.nilfn
 | .nilif=>.nilif
 | .ifc=>.ifc
 | .mp l=>.mp l
 | .nilm=>.nilm
 | .gptr g j=>.gptr g j
 | .ani=>.ani
 | .aptr b' m j=>if b'=b∧k.esz=1 then .iptr k.es.flatten j else .aptr b' m j
 | .lstx e es=>.lstx e (frzss b k es)
def frzs (b:Bid) (k:Blk):List AV→List AV
 | []=>[]
 | v :: vs=>frz b k v :: frzs b k vs
def frzss (b:Bid) (k:Blk):List (List AV)→List (List AV)
 | []=>[]
 | v :: vs=>frzs b k v :: frzss b k vs
end
theorem frz_cell {b:Bid} {k:Blk} (v:AV):(frz b k v).cell=v.cell:=by
 cases v <;> simp only[frz] <;> (try rfl) <;> (split <;> rfl)
theorem frzs_len {b:Bid} {k:Blk}:∀ (vs:List AV),(frzs b k vs).length=vs.length
 | []=>rfl
 | v :: vs=>by simp [frzs,frzs_len vs]
theorem frzss_len {b:Bid} {k:Blk}:∀ (vs:List (List AV)),(frzss b k vs).length=vs.length
 | []=>rfl
 | v :: vs=>by simp [frzss,frzss_len vs]
theorem frzs_all {b:Bid} {k:Blk}:∀ (vs:List AV),(frzs b k vs).all AV.cell=vs.all AV.cell
 | []=>rfl
 | v :: vs=>by simp [frzs,frzs_all vs,frz_cell]
theorem frzs_map {b:Bid} {k:Blk}:∀ (vs:List AV),frzs b k vs=vs.map (frz b k)
 | []=>rfl
 | v :: vs=>by simp [frzs,frzs_map vs]
theorem frzss_map {b:Bid} {k:Blk}:∀ (vs:List (List AV)),frzss b k vs=vs.map (fun r=>r.map (frz b k))
 | []=>rfl
 | v :: vs=>by simp [frzss,frzss_map vs,frzs_map]
theorem frz_rows {b:Bid} {k:Blk} {e:Nat} {es:List (List AV)} (h:rowsOk e es):rowsOk e (frzss b k es):=by
 intro r hr
 rw [frzss_map] at hr
 obtain ⟨r',hr',rfl⟩:=List.mem_map.1 hr
 rw [← frzs_map,frzs_len,frzs_all]
 exact h r' hr'
theorem VRss.mem {c:Cx} {vs:List (List AV)} {xs:List (List Value)} (h:VRss c vs xs) (i n:Nat):VRss c ((vs.drop i).take n) ((xs.drop i).take n) :=
 VRss.of_get (by simp [h.length]) (fun j v x hv hx=>by
  rw [List.getElem?_take] at hv hx
  split at hv
  ·rename_i hlt
   rw [if_pos hlt] at hx
   rw [List.getElem?_drop] at hv hx
   obtain ⟨x',hx',hr⟩:=h.get _ v hv
   rw [hx] at hx';cases hx';exact hr
  ·cases hv)
mutual
theorem VR.frz {c:Cx} {h:AH} (H:HRel c h) {b:Bid} {k:Blk} (hb:h.at_ b=some k):∀ (v:AV) (x:Value),VR c v x→VR (c.freeze b) (frz b k v) x
 | .undef,_,_=>by simp [Av.frz,VR]
 | .bool _,_,h=>by simpa [Av.frz,VR] using h
 | .int _ _,_,h=>by simpa [Av.frz,VR] using h
 | .str _,_,h=>by simpa [Av.frz,VR] using h
 | .nilp,_,h=>by simpa [Av.frz,VR] using h
 | .lptr _ _,_,h=>by simp [VR] at h
 | .nils,_,h=>by simpa [Av.frz,VR] using h
 | .nilfn,_,h=>by simpa [Av.frz,VR] using h
 | .nilif,_,h=>by simpa [Av.frz,VR] using h
 | .ifc,_,h=>by simpa [Av.frz,VR] using h
 | .mp _,_,h=>by simpa [Av.frz,VR] using h
 | .nilm,_,h=>by simpa [Av.frz,VR] using h
 | .gptr _ _,_,h=>by simpa [Av.frz,VR] using h
 | .ani,_,h=>by simpa [Av.frz,VR] using h
 | .aptr b' m j,x,hx=>by
  simp only[Av.frz]
  split
  ·rename_i hc
   obtain ⟨rfl,he⟩:=hc
   simp only[VR] at hx ⊢
   obtain ⟨hd,_,_,rfl⟩:=hx
   obtain ⟨xs,h1,h2,h3⟩:=(H.blk b' k hb).flat he
   exact ⟨_,0,xs,by rw [Nat.zero_add],.inr rfl,h1,h3,VRs.mono (Cx.freeze_le c b') _ _ h2⟩
  ·exact VR.mono (Cx.freeze_le c b) _ _ hx
 | .lstx e es,x,hx=>by
  simp only[Av.frz,VR] at hx ⊢
  obtain ⟨a,vs,hx,hn,hr,hat,hvs⟩:=hx
  exact ⟨a,vs,by rw [frzss_len];exact hx,fun ha=>by rw [hn ha];rfl,frz_rows hr,hat.mono (Cx.freeze_le c b),VRss.frz H hb es vs hvs⟩
 | .slc b' e i n,x,hx=>by
  simp only[Av.frz]
  split
  ·rename_i hc
   obtain ⟨rfl,hle⟩:=hc
   simp only[VR] at hx ⊢
   obtain ⟨hd,he,a,cap,h1,h2,h3,rfl,h5⟩:=hx
   obtain ⟨_,g2,g3,_,_,vs,g7,g8⟩:=H.blk b' k hb
   have hee:e=k.esz:=he.trans g2.symm
   have hln:((k.es.drop i).take n).length=n:=by rw [List.length_take,List.length_drop];omega
   refine ⟨some a,cap,(vs.drop i).take n,by rw [hln],by rw [hln];exact h1,by simp,?_,?_,VRss.mono (Cx.freeze_le c b') _ _ (g7.mem i n)⟩
   ·intro r hr
    rw [hee]
    exact g3 r (List.mem_of_mem_drop (List.mem_of_mem_take hr))
   ·by_cases hn:n=0
    ·subst hn;exact .inl (by simp)
    ·have ha:=h5 (by omega)
     subst ha
     refine .inr ⟨_,_,rfl,.inr rfl,fun j row hrow=>?_⟩
     rw [List.getElem?_take] at hrow
     split at hrow
     ·rw [List.getElem?_drop] at hrow
      have:=g8 (i+j) row hrow
      rw [hee,← Nat.add_mul]
      exact this
     ·cases hrow
  ·exact VR.mono (Cx.freeze_le c b) _ _ hx
 | .ptr b' i j,x,hx=>by
  simp only[Av.frz]
  split
  ·rename_i hc
   obtain ⟨rfl,hlt⟩:=hc
   simp only[VR] at hx ⊢
   obtain ⟨hd,rfl⟩:=hx
   obtain ⟨_,g2,g3,_,_,vs,g7,g8⟩:=H.blk b' k hb
   obtain ⟨row,hrow,hv⟩:=g7.getD_nil hlt
   refine ⟨_,i * (c.fm b').esz,row,rfl,.inr rfl,by rw [← g2];exact g8 i row hrow,?_,VRs.mono (Cx.freeze_le c b') _ _ hv⟩
   rw [List.getD_eq_getElem?_getD,List.getElem?_eq_getElem hlt]
   exact (g3 _ (List.getElem_mem hlt)).2
  ·exact VR.mono (Cx.freeze_le c b) _ _ hx
 | .iptr cs j,x,hx=>by
  simp only[Av.frz,VR] at hx ⊢
  obtain ⟨b0,o,xs,hx,hi,hr,hcs,hv⟩:=hx
  exact ⟨b0,o,xs,hx,.inl hi,hr,by rw [frzs_all];exact hcs,VRs.frz H hb cs xs hv⟩
 | .lst e es,x,hx=>by
  simp only[Av.frz,VR] at hx ⊢
  obtain ⟨a,cap,vs,hx,hcap,hn,hr,hat,hvs⟩:=hx
  exact ⟨a,cap,vs,by rw [frzss_len];exact hx,by rw [frzss_len];exact hcap,fun ha=>by rw [hn ha];rfl,frz_rows hr,hat.mono (Cx.freeze_le c b),VRss.frz H hb es vs hvs⟩
 | .agg cs,x,hx=>by
  simp only[Av.frz,VR] at hx ⊢
  obtain ⟨xs,hx,hcs,hv⟩:=hx
  exact ⟨xs,hx,by rw [frzs_all];exact hcs,VRs.frz H hb cs xs hv⟩
 | .tup cs,x,hx=>by
  simp only[Av.frz,VR] at hx ⊢
  obtain ⟨xs,hx,hv⟩:=hx
  exact ⟨xs,hx,VRs.frz H hb cs xs hv⟩
 | .fn f first cap,x,hx=>by
  simp only[Av.frz,VR] at hx ⊢
  obtain ⟨xs,ys,hx,h1,h2⟩:=hx
  exact ⟨xs,ys,hx,VRs.frz H hb first xs h1,VRs.frz H hb cap ys h2⟩
theorem VRs.frz {c:Cx} {h:AH} (H:HRel c h) {b:Bid} {k:Blk} (hb:h.at_ b=some k):∀ (vs:List AV) (xs:List Value),VRs c vs xs→VRs (c.freeze b) (frzs b k vs) xs
 | [],_,h=>by simpa [frzs,VRs] using h
 | v :: vs,l,hx=>by
  simp only[frzs,VRs] at hx ⊢
  obtain ⟨x,xs,hl,h1,h2⟩:=hx
  exact ⟨x,xs,hl,VR.frz H hb v x h1,VRs.frz H hb vs xs h2⟩
theorem VRss.frz {c:Cx} {h:AH} (H:HRel c h) {b:Bid} {k:Blk} (hb:h.at_ b=some k):∀ (vs:List (List AV)) (xs:List (List Value)),VRss c vs xs→VRss (c.freeze b) (frzss b k vs) xs
 | [],_,h=>by simpa [frzss,VRss] using h
 | v :: vs,l,hx=>by
  simp only[frzss,VRss] at hx ⊢
  obtain ⟨x,xs,hl,h1,h2⟩:=hx
  exact ⟨x,xs,hl,VRs.frz H hb v x h1,VRss.frz H hb vs xs h2⟩
end
theorem ACalls.freeze {f:FuncId} {args:List AV} {h:AH} {Q Q':AV→AH→Prop} (H:ACalls P f args h Q)
  (hq:∀ v h',Q v h'→∃ b k,h'.at_ b=some k∧h.at_ b=none∧Q' (frz b k v) (h'.put b none)):ACalls P f args h Q':=by
 refine ⟨H.1,fun c xs hh hv=>(H.2 c xs hh hv).mono ?_⟩
 rintro e w' ⟨v,x,c',h',rfl,rfl,hx,H',E,hdn,q⟩
 obtain ⟨b,k,hb,hnb,q'⟩:=hq v h' q
 obtain ⟨H2,E2⟩:=H'.freeze hb
 exact ⟨Av.frz b k v,x,c'.freeze b,h'.put b none,rfl,rfl,VR.frz H' hb v x hx,H2,E.trans E2,hdn,q'⟩
theorem HRel.sub {c:Cx} {h h':AH} (H:HRel c h) (ha:∀ b k,h'.at_ b=some k→h.at_ b=some k) (hl:∀ l r,h'.lp l=some r→h.lp l=some r) (hk:h.clk≤h'.clk) (hg:h'.gl=h.gl):HRel c h'∧Evo c h c h':=by
 refine ⟨⟨fun b hb=>Nat.lt_of_lt_of_le (H.clk b hb) hk,fun a k h=>H.blk a k (ha a k h),fun a a' k1 k2 h1 h2=>H.inj a a' k1 k2 (ha _ _ h1) (ha _ _ h2),fun a k h=>H.im a k (ha a k h),H.imlt,fun l r h=>H.lp l r (hl l r h),fun l r h=>H.lpim l r (hl l r h),fun a k l r h1 h2=>H.lpat a k l r (ha a k h1) (hl l r h2),by rw [hg];exact H.gl⟩,
  ⟨Cx.Le.refl c,hk,Nat.le_refl _,fun _ _ _=>rfl,fun _ h=>.inl h,fun i hi=>.inr ?_,fun a k h _=>⟨k,ha a k h⟩,rfl,rfl,rfl,hg⟩⟩
 rcases hi with ⟨a,k,h1,h2⟩|⟨r,hr⟩
 ·exact .inl ⟨a,k,ha a k h1,h2⟩
 ·exact .inr ⟨r,hl _ r hr⟩
theorem ACalls.sub {f:FuncId} {args:List AV} {h:AH} {Q Q':AV→AH→Prop} (H:ACalls P f args h Q)
  (hq:∀ v h',(∀ b k,h.at_ b=some k→b.1 < h.clk)→h.clk≤h'.clk→h'.gl=h.gl→Q v h'→∃ h2,(∀ b k,h2.at_ b=some k→h'.at_ b=some k)∧(∀ l r,h2.lp l=some r→h'.lp l=some r)∧h'.clk≤h2.clk∧h2.gl=h'.gl∧Q' v h2):ACalls P f args h Q':=by
 refine ⟨H.1,fun c xs hh hv=>(H.2 c xs hh hv).mono ?_⟩
 rintro e w' ⟨v,x,c',h',rfl,rfl,hx,H',E,hdn,q⟩
 obtain ⟨h2,g1,g2,g3,g4,q'⟩:=hq v h' (fun b k hb=>hh.clk b (hh.blk b k hb).1) E.clk E.gl q
 obtain ⟨H2,E2⟩:=H'.sub g1 g2 g3 g4
 exact ⟨v,x,c',h2,rfl,rfl,hx,H2,E.trans E2,hdn,q'⟩
def Later (h h':AH):Prop:=∃ n,h.clk≤n∧h'=h.tick n
theorem ACalls.forget {f:FuncId} {args:List AV} {h:AH} {Q:AV→Prop} (H:ACalls P f args h (fun v h'=>(∀ b,b.1 < h.clk→h'.at_ b=h.at_ b)∧h'.lp=h.lp∧Q v)):ACalls P f args h (fun v h'=>Later h h'∧Q v) :=
 H.sub fun v h' hb hk hg ⟨h1,h2,q⟩=>⟨h.tick h'.clk,fun b k hbk=>by
  have hbk':h.at_ b=some k:=hbk
  rw [h1 b (hb b k hbk')];exact hbk',fun l r hr=>by rw [h2];exact hr,Nat.le_refl _,hg.symm,⟨_,hk,rfl⟩,q⟩
end Go.Av
namespace Go.Av
variable {P:Program} {tt:Nat→TI} {fi:FI} {k0:Nat} {ops:Array Oper} {K:AS→Prop} {T:Nat→AV} {B:Bid→Option (List AV)} {M:List Nat} {H:AH}
theorem st_seq_reg {id:Nat} {b:Code} {Q:Exit→AS→Prop} {l:List Oper} (hl:ops.toList=l) {k:Nat} {H':AH} (hk:H.clk=k) (hH:H.tick (k+1)=H') (h:awpOps P tt fi k ops (fun s'=>awp P tt fi b Q s') l ⟨T,B,M,H'⟩) (hf:fi.free id=false:=by rfl):awp P tt fi (.seq (.region id ops false) b) Q ⟨T,B,M,H⟩:=by
 subst hl hk hH;unfold awp;(try unfold awp);rw [hf];exact h
theorem st_seq_draw {id:Nat} {b:Code} {Q:Exit→AS→Prop} {l:List (Oper × Bool)} (hl:oget ops (fi.look id).2=l) {k:Nat} {H':AH} (hk:H.clk=k) (hH:H.tick (k+1)=H') (h:awpD P tt fi k ops (fun s'=>awp P tt fi b Q s') l ⟨T,B,M,H'⟩) (hf:fi.free id=false:=by rfl):awp P tt fi (.seq (.region id ops true) b) Q ⟨T,B,M,H⟩:=by
 subst hl hk hH;unfold awp;(try unfold awp);rw [hf];exact h
theorem st_reg {id:Nat} {Q:Exit→AS→Prop} {l:List Oper} (hl:ops.toList=l) {k:Nat} {H':AH} (hk:H.clk=k) (hH:H.tick (k+1)=H') (h:awpOps P tt fi k ops (fun s'=>Q .normal s') l ⟨T,B,M,H'⟩) (hf:fi.free id=false:=by rfl):awp P tt fi (.region id ops false) Q ⟨T,B,M,H⟩:=by
 subst hl hk hH;unfold awp;(try unfold awp);rw [hf];exact h
theorem st_draw {id:Nat} {Q:Exit→AS→Prop} {l:List (Oper × Bool)} (hl:oget ops (fi.look id).2=l) {k:Nat} {H':AH} (hk:H.clk=k) (hH:H.tick (k+1)=H') (h:awpD P tt fi k ops (fun s'=>Q .normal s') l ⟨T,B,M,H'⟩) (hf:fi.free id=false:=by rfl):awp P tt fi (.region id ops true) Q ⟨T,B,M,H⟩:=by
 subst hl hk hH;unfold awp;(try unfold awp);rw [hf];exact h
theorem st_seq {a b:Code} {Q:Exit→AS→Prop} {s:AS} (h:awp P tt fi a (thenA (fun s'=>awp P tt fi b Q s') Q) s):awp P tt fi (.seq a b) Q s:=h
theorem st_cond {x:Operand} {a b:Code} {Q:Exit→AS→Prop} {s:AS} {t:Bool} (hx:s.ev x=.bool t) (h:condP t (awp P tt fi a Q s) (awp P tt fi b Q s)):awp P tt fi (.cond x a b) Q s:=by
 unfold awp;rw [hx];exact h
theorem st_condT {x:Operand} {a b:Code} {Q:Exit→AS→Prop} {s:AS} (hx:s.ev x=.bool true) (h:awp P tt fi a Q s):awp P tt fi (.cond x a b) Q s:=st_cond hx ⟨fun _=>h,fun e=>by cases e⟩
theorem st_condF {x:Operand} {a b:Code} {Q:Exit→AS→Prop} {s:AS} (hx:s.ev x=.bool false) (h:awp P tt fi b Q s):awp P tt fi (.cond x a b) Q s:=st_cond hx ⟨fun e=>(by cases e),fun _=>h⟩
theorem st_ret {Q:Exit→AS→Prop} {s:AS} (h:Q .ret s):awp P tt fi .ret Q s:=h
theorem st_skip {Q:Exit→AS→Prop} {s:AS} (h:Q .normal s):awp P tt fi .skip Q s:=h
theorem st_exit {id:Nat} {Q:Exit→AS→Prop} {s:AS} (h:Q (.exit id) s):awp P tt fi (.exit id) Q s:=h
theorem st_block {id:Nat} {a:Code} {Q:Exit→AS→Prop} {s:AS} (h:awp P tt fi a (blockA id Q) s):awp P tt fi (.block id a) Q s:=h
theorem upd_self {κ α:Type} [DecidableEq κ] {f:κ→α} {k:κ} {v:α} (h:f k=v):upd f k v=f:=by
 funext i;simp only[upd];split
 ·rename_i e;rw [e,h]
 ·rfl
theorem st_condS {d:Nat} {a b:Code} {Q:Exit→AS→Prop} {t:Bool} (hx:T d=.bool t) (h1:t=true→awp P tt fi a Q ⟨upd T d (.bool true),B,M,H⟩) (h2:t=false→awp P tt fi b Q ⟨upd T d (.bool false),B,M,H⟩):awp P tt fi (.cond (.tmp d) a b) Q ⟨T,B,M,H⟩:=by
 refine st_cond (t:=t) hx ⟨fun e=>?_,fun e=>?_⟩ <;> subst e
 ·have:=h1 rfl;rwa [upd_self hx] at this
 ·have:=h2 rfl;rwa [upd_self hx] at this
theorem st_seq_free {id:Nat} {ops:Array Oper} {draw:Bool} {b:Code} {Q:Exit→AS→Prop} {s:AS} (h:ASem P fi.rnd fi.n (.region id ops draw) (thenA (fun s'=>awp P tt fi b Q s') Q) s) (hf:fi.free id=true:=by rfl):awp P tt fi (.seq (.region id ops draw) b) Q s:=by
 unfold awp;unfold awp;rw [hf];exact h
theorem st_nil {s:AS} (h:K s):awpOps P tt fi k0 ops K [] s:=h
theorem st_dnil {s:AS} (h:K s):awpD P tt fi k0 ops K [] s:=h
theorem st_op {dst:Option Tmp} {op:Op} {t:TypeId} {p:String} {a:Array Edge} {rest:List Oper} {s:AS} (h:awp1 P tt fi k0 ⟨dst,op,t,p,a,none⟩ s (awpOps P tt fi k0 ops K rest)):awpOps P tt fi k0 ops K (⟨dst,op,t,p,a,none⟩ :: rest) s:=by
 unfold awpOps awpG gst;exact ⟨fun _=>h,fun e=>by cases e⟩
theorem st_dop {dst:Option Tmp} {op:Op} {t:TypeId} {p:String} {a:Array Edge} {rest:List (Oper × Bool)} {s:AS} {fl:Bool} (hf:flagOk fi fl ⟨dst,op,t,p,a,none⟩ s=true) (h:awp1 P tt fi k0 ⟨dst,op,t,p,a,none⟩ s (awpD P tt fi k0 ops K rest)):awpD P tt fi k0 ops K ((⟨dst,op,t,p,a,none⟩,fl) :: rest) s:=by
 unfold awpD awpG gst;exact ⟨fun _=>⟨hf,h⟩,fun e=>by cases e⟩
theorem gst_of {o:Oper} {s:AS} {j d:Nat} {want:Bool} {b:Bool} (hg:o.guard=some (j,want)) (hd:(ops[j]?).bind (·.dst)=some d) (hv:gval want (s.tmp d)=some b):gst ops o s=some b:=by
 unfold gst;rw [hg];dsimp only;rw [hd];exact hv
theorem st_gT {dst:Option Tmp} {op:Op} {t:TypeId} {p:String} {a:Array Edge} {rest:List Oper} {s:AS} {j d:Nat} {want:Bool} (hd:(ops[j]?).bind (·.dst)=some d) {bw:Option Bool} (hv:gval want (s.tmp d)=bw) (hb:bw=some true)
  (h:awp1 P tt fi k0 ⟨dst,op,t,p,a,some (j,want)⟩ s (awpOps P tt fi k0 ops K rest)):awpOps P tt fi k0 ops K (⟨dst,op,t,p,a,some (j,want)⟩ :: rest) s:=by
 unfold awpOps awpG;rw [gst_of rfl hd (hv.trans hb)];exact ⟨fun _=>h,fun e=>by cases e⟩
theorem st_gF {dst:Tmp} {op:Op} {t:TypeId} {p:String} {a:Array Edge} {rest:List Oper} {j d:Nat} {want:Bool} (hd:(ops[j]?).bind (·.dst)=some d) {bw:Option Bool} (hv:gval want (T d)=bw) (hb:bw=some false)
  (h:awpOps P tt fi k0 ops K rest ⟨upd T dst (.tup []),B,M,H⟩):awpOps P tt fi k0 ops K (⟨some dst,op,t,p,a,some (j,want)⟩ :: rest) ⟨T,B,M,H⟩:=by
 unfold awpOps awpG;rw [gst_of rfl hd (hv.trans hb)];exact ⟨fun e=>(by cases e),fun _=>h⟩
theorem st_gS {dst:Option Tmp} {op:Op} {t:TypeId} {p:String} {a:Array Edge} {rest:List Oper} {j d:Nat} {want b:Bool} (hd:(ops[j]?).bind (·.dst)=some d) (hv:T d=.bool b)
  (h1:b=true→awpOps P tt fi k0 ops K (⟨dst,op,t,p,a,some (j,want)⟩ :: rest) ⟨upd T d (.bool true),B,M,H⟩) (h2:b=false→awpOps P tt fi k0 ops K (⟨dst,op,t,p,a,some (j,want)⟩ :: rest) ⟨upd T d (.bool false),B,M,H⟩) :
  awpOps P tt fi k0 ops K (⟨dst,op,t,p,a,some (j,want)⟩ :: rest) ⟨T,B,M,H⟩:=by
 cases b
 ·have:=h2 rfl;rwa [upd_self hv] at this
 ·have:=h1 rfl;rwa [upd_self hv] at this
theorem st_dgT {dst:Option Tmp} {op:Op} {t:TypeId} {p:String} {a:Array Edge} {rest:List (Oper × Bool)} {s:AS} {j d:Nat} {want fl:Bool} (hd:(ops[j]?).bind (·.dst)=some d) {bw:Option Bool} (hv:gval want (s.tmp d)=bw) (hb:bw=some true)
  (hf:flagOk fi fl ⟨dst,op,t,p,a,some (j,want)⟩ s=true) (h:awp1 P tt fi k0 ⟨dst,op,t,p,a,some (j,want)⟩ s (awpD P tt fi k0 ops K rest)):awpD P tt fi k0 ops K ((⟨dst,op,t,p,a,some (j,want)⟩,fl) :: rest) s:=by
 unfold awpD awpG;rw [gst_of rfl hd (hv.trans hb)];exact ⟨fun _=>⟨hf,h⟩,fun e=>by cases e⟩
theorem st_dgF {dst:Tmp} {op:Op} {t:TypeId} {p:String} {a:Array Edge} {rest:List (Oper × Bool)} {j d:Nat} {want fl:Bool} (hd:(ops[j]?).bind (·.dst)=some d) {bw:Option Bool} (hv:gval want (T d)=bw) (hb:bw=some false)
  (h:awpD P tt fi k0 ops K rest ⟨upd T dst (.tup []),B,M,H⟩):awpD P tt fi k0 ops K ((⟨some dst,op,t,p,a,some (j,want)⟩,fl) :: rest) ⟨T,B,M,H⟩:=by
 unfold awpD awpG;rw [gst_of rfl hd (hv.trans hb)];exact ⟨fun e=>(by cases e),fun _=>h⟩
theorem st_dgS {dst:Option Tmp} {op:Op} {t:TypeId} {p:String} {a:Array Edge} {rest:List (Oper × Bool)} {j d:Nat} {want b fl:Bool} (hd:(ops[j]?).bind (·.dst)=some d) (hv:T d=.bool b)
  (h1:b=true→awpD P tt fi k0 ops K ((⟨dst,op,t,p,a,some (j,want)⟩,fl) :: rest) ⟨upd T d (.bool true),B,M,H⟩) (h2:b=false→awpD P tt fi k0 ops K ((⟨dst,op,t,p,a,some (j,want)⟩,fl) :: rest) ⟨upd T d (.bool false),B,M,H⟩) :
  awpD P tt fi k0 ops K ((⟨dst,op,t,p,a,some (j,want)⟩,fl) :: rest) ⟨T,B,M,H⟩:=by
 cases b
 ·have:=h2 rfl;rwa [upd_self hv] at this
 ·have:=h1 rfl;rwa [upd_self hv] at this
theorem st_det {d:Tmp} {op:Op} {t:TypeId} {p:String} {a:Array Edge} {g:Option (Nat × Bool)} {v:AV} (hd:isDet ⟨some d,op,t,p,a,g⟩=true) (h:dres tt fi k0 ⟨some d,op,t,p,a,g⟩ ⟨T,B,M,H⟩=some (v,.none)) (hk:K ⟨upd T d v,B,M,H⟩) :
  awp1 P tt fi k0 ⟨some d,op,t,p,a,g⟩ ⟨T,B,M,H⟩ K:=(awp1_det hd).2 ⟨_,h,hk⟩
theorem st_loc {d:Tmp} {op:Op} {t:TypeId} {p:String} {a:Array Edge} {g:Option (Nat × Bool)} {v:AV} {id:Bid} {cs:List AV} (hd:isDet ⟨some d,op,t,p,a,g⟩=true) (h:dres tt fi k0 ⟨some d,op,t,p,a,g⟩ ⟨T,B,M,H⟩=some (v,.loc id cs)) (hk:K ⟨upd T d v,upd B id (some cs),M,H⟩) :
  awp1 P tt fi k0 ⟨some d,op,t,p,a,g⟩ ⟨T,B,M,H⟩ K:=(awp1_det hd).2 ⟨_,h,hk⟩
theorem st_heap {d:Tmp} {op:Op} {t:TypeId} {p:String} {a:Array Edge} {g:Option (Nat × Bool)} {v:AV} {id:Bid} {e:Nat} {es:List (List AV)} (hd:isDet ⟨some d,op,t,p,a,g⟩=true) (h:dres tt fi k0 ⟨some d,op,t,p,a,g⟩ ⟨T,B,M,H⟩=some (v,.heap id e es)) (hk:K ⟨upd T d v,B,M,H.put id (some ⟨e,es⟩)⟩) :
  awp1 P tt fi k0 ⟨some d,op,t,p,a,g⟩ ⟨T,B,M,H⟩ K:=(awp1_det hd).2 ⟨_,h,hk⟩
theorem st_store {ty:TypeId} {q v:Operand} {t:TypeId} {p:String} {a:Array Edge} {g:Option (Nat × Bool)} {s':AS} (h:aput (tt ty) ⟨T,B,M,H⟩ (AS.ev ⟨T,B,M,H⟩ q) (AS.ev ⟨T,B,M,H⟩ v)=some s') (hk:K s') :
  awp1 P tt fi k0 ⟨none,.store ty q v,t,p,a,g⟩ ⟨T,B,M,H⟩ K:=⟨s',h,hk⟩
theorem st_append {d:Tmp} {x y:Operand} {u t:TypeId} {p:String} {a:Array Edge} {g:Option (Nat × Bool)} {v:AV} {H':AH} (h:aapp tt H u (k0,d) (AS.ev ⟨T,B,M,H⟩ x) (AS.ev ⟨T,B,M,H⟩ y)=some (v,H')) (hk:K ⟨upd T d v,B,M,H'⟩) :
  awp1 P tt fi k0 ⟨some d,.call ⟨.builtin .append,#[x,y],#[u,u]⟩,t,p,a,g⟩ ⟨T,B,M,H⟩ K:=by
 unfold awp1;dsimp only
 unfold awpCall
 simp only[if_true]
 exact .inl ⟨_,h,hk⟩
theorem st_call {d:Tmp} {f:Operand} {xs:Array Operand} {ts:Array TypeId} {t:TypeId} {p:String} {a:Array Edge} {g:Option (Nat × Bool)} {fid:FuncId} {first cap args:List AV} {Q:AV→AH→Prop}
  (hf:AS.ev ⟨T,B,M,H⟩ f=.fn (.func fid) first cap) (ha:xs.toList.map (AS.ev ⟨T,B,M,H⟩)=args) (hn:args.all noL=true) (hc:ACalls P fid (first ++ args ++ cap) H Q) (hk:∀ v H',Q v H'→K ⟨upd T d v,B,M,H'⟩) :
  awp1 P tt fi k0 ⟨some d,.call ⟨.value f,xs,ts⟩,t,p,a,g⟩ ⟨T,B,M,H⟩ K:=by
 unfold awp1;dsimp only
 unfold awpCall
 simp only[ha]
 refine ⟨hn,?_⟩
 rw [hf]
 exact hc.mono hk
theorem st_callf {d:Tmp} {fid:FuncId} {xs:Array Operand} {ts:Array TypeId} {t:TypeId} {p:String} {a:Array Edge} {g:Option (Nat × Bool)} {args:List AV} {Q:AV→AH→Prop}
  (ha:xs.toList.map (AS.ev ⟨T,B,M,H⟩)=args) (hn:args.all noL=true) (hc:ACalls P fid args H Q) (hk:∀ v H',Q v H'→K ⟨upd T d v,B,M,H'⟩) :
  awp1 P tt fi k0 ⟨some d,.call ⟨.value (.func fid),xs,ts⟩,t,p,a,g⟩ ⟨T,B,M,H⟩ K :=
 st_call (first:=[]) (cap:=[]) rfl ha hn (by simpa using hc) hk
theorem st_yield {d:Tmp} {f:Operand} {xs:Array Operand} {ts:Array TypeId} {t:TypeId} {p:String} {a:Array Edge} {g:Option (Nat × Bool)} {l:Nat} {args:List AV} {Q:AV→AH→Prop}
  (hf:AS.ev ⟨T,B,M,H⟩ f=.fn (.yield l) [] []) (ha:xs.toList.map (AS.ev ⟨T,B,M,H⟩)=args) (hn:args.all noL=true) (hc:AYields P l args H Q) (hk:∀ v H',Q v H'→K ⟨upd T d v,B,M,H'⟩) :
  awp1 P tt fi k0 ⟨some d,.call ⟨.value f,xs,ts⟩,t,p,a,g⟩ ⟨T,B,M,H⟩ K:=by
 unfold awp1;dsimp only
 unfold awpCall
 simp only[ha]
 refine ⟨hn,?_⟩
 rw [hf]
 intro c ys hh hv
 obtain ⟨fn,tmps,assign,body,h1,h2⟩:=hc c ys hh hv
 exact ⟨fn,tmps,assign,body,h1,h2.mono (Ends.mono hk)⟩
end Go.Av
