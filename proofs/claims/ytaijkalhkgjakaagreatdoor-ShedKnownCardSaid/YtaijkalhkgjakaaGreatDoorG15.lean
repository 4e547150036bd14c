/- Contracts of functions that the claim reaches: what each call gives, told in our own logic. Conditions: those of each theorem. -/
import Derived.Test.YtaijkalhkgjakaaGreatDoorG12
open List (length_map)
set_option linter.all false
set_option linter.unusedSimpArgs false
set_option linter.unusedVariables false
namespace Go.Proofs.YtaijkalhkgjakaaGreatDoor
open Go.Av
attribute [local irreducible] thenA blockA awp awpOps awpD awp1
attribute [local go_sem_proc] Nat.reduceAdd Nat.reduceMul Nat.reduceEqDiff Nat.reduceBEq Nat.reduceLeDiff
attribute [local go_sem_proc ↓] reduceIte
attribute [local go_sem] if_yes if_no
set_option maxHeartbeats 8000000
set_option maxRecDepth 20000
structure Fr (c0:Nat) (bp:Bid) (h g:AH):Prop where
 at_:∀ b:Bid,b.1 < c0→b ≠ bp→g.at_ b=h.at_ b
 lp:g.lp=h.lp
 clk:h.clk≤g.clk
 gl:g.gl=h.gl
theorem Fr.refl {c0:Nat} {bp:Bid} (h:AH):Fr c0 bp h h:=⟨fun _ _ _=>rfl,rfl,Nat.le_refl _,rfl⟩
theorem Fr.trans {c0:Nat} {bp:Bid} {h g k:AH} (a:Fr c0 bp h g) (b:Fr c0 bp g k):Fr c0 bp h k:=⟨fun x h1 h2=>(b.at_ x h1 h2).trans (a.at_ x h1 h2),b.lp.trans a.lp,Nat.le_trans a.clk b.clk,b.gl.trans a.gl⟩
theorem Fr.tick {c0:Nat} {bp:Bid} {h g:AH} (a:Fr c0 bp h g) {n:Nat} (hn:g.clk≤n):Fr c0 bp h (g.tick n):=⟨a.at_,a.lp,Nat.le_trans a.clk hn,a.gl⟩
def scap (S:Sp) (days:List Int) (bp:Bid):List AV:=[.ptr bp 0 0,.iptr [.lst 3 (S.ws.map Wk.row),.lst 3 (S.js.map Jb.row)] 0,.iptr (aC 7 (ixF days)) 0]
@[go_sem] theorem knot_s (S:Sp) (days:List Int) (bp:Bid) (n:Nat):knot (.func 105) (scap S days bp) (n+1)=.iptr [.fn (.func 105) [] [.ptr bp 0 0,.iptr [.lst 3 (S.ws.map Wk.row),.lst 3 (S.js.map Jb.row)] 0,.iptr (aC 7 (ixF days)) 0,knot (.func 105) (scap S days bp) n]] 0:=rfl
def clashAt (js:List Jb) (p:List Sf) (day:Int) (i k:Nat):Bool:=decide ((pAt p k).w=i) && decide (day < (pAt p k).d+(jOf js k).d) && decide ((pAt p k).d < day+(jOf js p.length).d)
theorem clash_no {js:List Jb} {p:List Sf} {day:Int} {i:Nat} (h:∀ k,k < p.length→clashAt js p day i k=false):clashD js p day i=false:=by
 unfold clashD
 rw [List.any_eq_false]
 intro k hk
 have:=h k (List.mem_range.1 hk)
 unfold clashAt at this
 rw [this];decide
theorem clash_yes {js:List Jb} {p:List Sf} {day:Int} {i k:Nat} (hk:k < p.length) (h:clashAt js p day i k=true):clashD js p day i=true:=by
 unfold clashD
 rw [List.any_eq_true]
 exact ⟨k,List.mem_range.2 hk,h⟩
theorem stepC {F:Nat→Bool} {k:Nat} (h:∀ k',k' < k→F k'=false) (hk:F k=false):∀ k',k' < k+1→F k'=false:=fun k' hk'=>by
 by_cases e:k'=k
 ·rw [e];exact hk
 ·exact h k' (by omega)
def stF (S:Sp) (days:List Int) (f:Nat) (p:List Sf) (i:Nat):Option (List Sf):=if staffAt S days p i then staffD S days f (p ++ [⟨i,days.getD p.length 0⟩]) else none
theorem stF_no {S:Sp} {days:List Int} {f:Nat} {p:List Sf} {i:Nat} (h:staffAt S days p i=false):stF S days f p i=none:=by unfold stF;rw [h];rfl
theorem staffD_F {S:Sp} {days:List Int} {f:Nat} {p:List Sf} (h:p.length ≠ S.js.length):staffD S days (f+1) p=(List.range S.ws.length).findSome? (stF S days f p):=by
 simp only[staffD,if_neg h];rfl
theorem findSome_range {α:Type} {F:Nat→Option α} {n:Nat} (h:∀ i,i < n→F i=none):(List.range n).findSome? F=none:=by
 rw [List.findSome?_eq_none_iff]
 intro i hi;exact h i (List.mem_range.1 hi)
theorem findSome_hit {α:Type} {F:Nat→Option α} {n i:Nat} {a:α} (hi:i < n) (h:∀ k,k < i→F k=none) (ha:F i=some a):(List.range n).findSome? F=some a:=by
 rw [List.findSome?_eq_some_iff]
 refine ⟨List.range i,i,(List.range (n - i - 1)).map (i+1+·),?_,ha,fun k hk=>h k (List.mem_range.1 hk)⟩
 have e:n=i+(n - i - 1+1):=by omega
 conv=>lhs;rw [e,List.range_add,List.range_succ_eq_map]
 simp [List.map_map,Function.comp_def,Nat.add_assoc,Nat.add_comm 1]
theorem c105 (S:Sp) (hS:S.Ok) (days:List Int) (hdl:days.length=7) (hdb:∀ i,0≤days.getD i 0∧days.getD i 0≤3000) (bp:Bid) (c0:Nat) (hbc:bp.1 < c0):∀ (f d:Nat) (p:List Sf) (v:AV) (h:AH),f≤d→S.js.length < p.length+f→p.length≤S.js.length→Stf S days p p.length →
  h.at_ bp=some ⟨1,[[v]]⟩→SlZ 2 c0 h v (p.map Sf.row)→c0≤h.clk→h.gl=gB →
  ACalls Tryz.prog 105 [.ptr bp 0 0,.iptr [.lst 3 (S.ws.map Wk.row),.lst 3 (S.js.map Jb.row)] 0,.iptr (aC 7 (ixF days)) 0,knot (.func 105) (scap S days bp) d] h
   (fun r h'=>∃ v',r=.bool (staffD S days f p).isSome∧h'.at_ bp=some ⟨1,[[v']]⟩∧SlZ 2 c0 h' v' (((staffD S days f p).getD p).map Sf.row)∧Fr c0 bp h h'):=by
 intro f
 induction f with
 | zero=>intro d p v h _ h1 h2;omega
 | succ f ih =>
  intro d p v h hd hpf hpn hst hat hsl hc0 hgl
  obtain ⟨d,rfl⟩:∃ d',d=d'+1:=⟨d - 1,by omega⟩
  have h7:=hS.n7
  have h4:=hS.m4
  have hlen:alen (tt 69) v=some ((p.length:Nat):Int):=by have:=hsl.len (ti:=tt 69) rfl;rwa [Lm] at this
  have hnv:=hsl.noL
  refine ACalls.ofS tab Tryz.call105 Tryz.func105 rfl (fi:=⟨86,[7,9],[78],none,[(7,[0,1,0,4,0,28,60,127,255,511],[(0,true),(2,false),(3,true),(4,false),(5,false),(6,true),(1,false),(7,false),(8,false),(9,false)]),(11,[0,1,0,7,15,31,63,127,31,31,31,1823,4095,8191,16383,32767,65535,32767,163839,425983,32767,1081343,32767,7372799,15761407,32538623,67010559,134217727,268435455],[(0,false),(1,true),(2,false),(3,false),(4,false),(5,false),(6,false),(7,true),(8,true),(9,false),(10,false),(11,false),(12,false),(13,false),(14,false),(15,false),(16,true),(17,false),(18,false),(19,true),(20,false),(21,true),(22,false),(23,false),(24,false),(25,true),(26,false),(27,false),(28,false)]),(13,[0,0,0,4,12,30,62,127,255],[(0,false),(1,false),(2,false),(3,false),(4,true),(5,false),(6,false),(7,false),(8,false)])]⟩) rfl rfl (Nat.le_of_ble_eq_true rfl) ?_
  unfold startA
  try simp only[go_sem]
  refine asem_awp (fi:=⟨86,[7,9],[78],none,[(7,[0,1,0,4,0,28,60,127,255,511],[(0,true),(2,false),(3,true),(4,false),(5,false),(6,true),(1,false),(7,false),(8,false),(9,false)]),(11,[0,1,0,7,15,31,63,127,31,31,31,1823,4095,8191,16383,32767,65535,32767,163839,425983,32767,1081343,32767,7372799,15761407,32538623,67010559,134217727,268435455],[(0,false),(1,true),(2,false),(3,false),(4,false),(5,false),(6,false),(7,true),(8,true),(9,false),(10,false),(11,false),(12,false),(13,false),(14,false),(15,false),(16,true),(17,false),(18,false),(19,true),(20,false),(21,true),(22,false),(23,false),(24,false),(25,true),(26,false),(27,false),(28,false)]),(13,[0,0,0,4,12,30,62,127,255],[(0,false),(1,false),(2,false),(3,false),(4,true),(5,false),(6,false),(7,false),(8,false)])]⟩) tab mixed (by decide) ?_
  repeat' (first|refine st_seq_reg rfl (by first|(simp only[go_sem,hat,hlen,hnv,Lm,List.append_nil];rfl)|rfl) (by first|(simp only[go_sem,hat,hlen,hnv,Lm,List.append_nil];rfl)|rfl) ?_|refine st_op ?_|refine st_det rfl (by simp (disch:=omega) only[go_sem,wr_i64,hat,hlen,hnv,Lm,List.append_nil];rfl) ?_|(refine st_condS rfl ?_ ?_ <;> intro hg <;> (try simp only[dcT,dcF,bnT,bnF] at hg))|refine st_nil ?_|refine st_tN ?_|refine st_seq ?_|refine st_block ?_|refine st_skip ?_|refine st_ret ?_|refine st_tR ?_|refine st_noR ?_|refine st_label ?_|refine st_scope tab mixed (by decide) ?_)
  ·simp (disch:=omega) only[AEnd,Tryz.results105,aresK,fin,go_sem,implies_true,true_and,and_true,List.reverse_cons,List.reverse_nil]
   have e:p.length=S.js.length:=by omega
   have eD:staffD S days (f+1) p=some p:=by simp only[staffD,if_pos e]
   rw [eD]
   exact ⟨v,rfl,hat,hsl.same (fun _ _ _=>rfl) (by simp only[go_sem];omega),(Fr.refl h).tick (by omega)⟩
  have hne:p.length ≠ S.js.length:=by omega
  have hpl:p.length < S.js.length:=by omega
  have hix:0≤ixF days p.length∧ixF days p.length≤3000:=hdb p.length
  rw [staffD_F hne]
  have hj:=hS.j hpl
  unfold Jb.Ok at hj
  have hjo:∀ k,k < S.js.length→1≤(jOf S.js k).d∧(jOf S.js k).d≤30:=fun k hk=>(hS.j hk).2.2.2.2
  have hjp:=hjo p.length hpl
  have hpd:∀ k,k < p.length→0≤(pAt p k).d∧(pAt p k).d≤3000:=fun k hk=>by rw [(hst.w k hk).2.2.2];exact hdb k
  have hday:=hdb p.length
  have hdx:days.getD p.length 0=ixF days p.length:=rfl
  refine st_loopH (α:=Nat × AH × AV) tab mixed [] [] (by repeat (first|exact trivial|refine ⟨rfl,?_⟩)) [] [] (by repeat (first|exact trivial|refine ⟨rfl,?_⟩)) (fun a=>[(20,.int .i64 (a.1:Nat))]) [(0,_),(1,_),(2,_),(3,_),(4,_),(5,_),(18,_),(19,_)] (fun _=>[]) [] (fun a=>a.2.1) (fun a=>a.1≤S.ws.length∧a.2.1.at_ bp=some ⟨1,[[a.2.2]]⟩∧SlZ 2 c0 a.2.1 a.2.2 (p.map Sf.row)∧Fr c0 bp h a.2.1∧∀ k,k < a.1→stF S days f p k=none) (fun a=>S.ws.length - a.1) (by decide) (0,h,v) ⟨Nat.zero_le _,hat,hsl,Fr.refl h,fun k hk=>absurd hk (Nat.not_lt_zero k)⟩ (by (try simp only[go_sem]);repeat' (first|exact trivial|refine And.intro ?_ ?_|rfl|(simp (disch:=omega) only[go_sem,if_yes,if_no,if_no];rfl)|(simp (disch:=omega) only[go_sem,if_yes,if_no,if_no]))) (by (try simp only[go_sem]);repeat' (first|exact trivial|refine And.intro ?_ ?_|rfl|(simp (disch:=omega) only[go_sem,if_yes,if_no,if_no];rfl)|(simp (disch:=omega) only[go_sem,if_yes,if_no,if_no]))) (HOld.tick (by simp only[go_sem];omega)) ?_
  rintro ⟨i,g,w⟩ c ⟨hiw,hatw,hslw,hfr,hnone⟩ hc
  dsimp only at hiw hatw hslw hfr hnone hc
  simp only[go_sem]
  have hgc:=hfr.clk
  have hglg:g.gl=gB:=hfr.gl.trans hgl
  have hlenw:alen (tt 69) w=some ((p.length:Nat):Int):=by have:=hslw.len (ti:=tt 69) rfl;rwa [Lm] at this
  have hnvw:=hslw.noL
  have hgl:=hglg
  have hpre:c0≤g.clk:=by omega
  have hSz:∀ n,g.clk≤n→SlZ 2 c0 (g.tick n) w (p.map Sf.row):=fun n hn=>hslw.same (fun _ _ _=>rfl) hn
  have hwk:wOf S.ws i=S.wk i:=rfl
  have hnext:stF S days f p i=none→∀ k,k < i+1→stF S days f p k=none:=fun h k hk=>by
   by_cases e:k=i
   ·rw [e];exact h
   ·exact hnone k (by omega)
  repeat' (first|refine st_seq_reg rfl (by first|(simp only[go_sem,hatw,hlenw,hnvw,Lm,List.append_nil];rfl)|rfl) (by first|(simp only[go_sem,hatw,hlenw,hnvw,Lm,List.append_nil];rfl)|rfl) ?_|refine st_reg rfl (by first|(simp only[go_sem,hatw,hlenw,hnvw,Lm,List.append_nil];rfl)|rfl) (by first|(simp only[go_sem,hatw,hlenw,hnvw,Lm,List.append_nil];rfl)|rfl) ?_|refine st_seq_draw rfl (by first|(simp only[go_sem,hatw,hlenw,hnvw,Lm,List.append_nil];rfl)|rfl) (by first|(simp only[go_sem,hatw,hlenw,hnvw,Lm,List.append_nil];rfl)|rfl) ?_|refine st_op ?_|refine st_det rfl (by simp (disch:=omega) only[go_sem,wr_i64,hatw,hlenw,hnvw,Lm,List.append_nil];rfl) ?_|refine st_dop rfl ?_|refine st_loc rfl (by simp (disch:=omega) only[go_sem,wr_i64,hatw,hlenw,hnvw,Lm,List.append_nil];rfl) ?_|refine st_store (by simp (disch:=omega) only[go_sem,wr_i64,hatw,hlenw,hnvw,Lm,List.append_nil];rfl) ?_|(refine st_pureE (by first|(simp (disch:=omega) only[go_sem,hatw,hlenw,hnvw,Lm,List.append_nil];rfl)|rfl) rfl (c74 _) (by first|(simp only[go_sem,hatw,hlenw,hnvw,Lm,List.append_nil];rfl)|rfl) (by intro n;first|(simp (disch:=omega) only[go_sem];rfl)|rfl) ?_;intro n hn)|(refine st_pureGE (by first|(simp (disch:=omega) only[go_sem,hatw,hlenw,hnvw,Lm,List.append_nil];rfl)|rfl) rfl (c73 (jOf S.js p.length) ⟨hj.2.2.1,hj.2.2.2.1⟩) (by exact hgl) (by first|(simp only[go_sem,hatw,hlenw,hnvw,Lm,List.append_nil];rfl)|rfl) (by intro n;first|(simp (disch:=omega) only[go_sem];rfl)|rfl) ?_;intro n hn)|(refine st_condS rfl ?_ ?_ <;> intro hg <;> (try simp only[dcT,dcF,bnT,bnF] at hg))|refine st_nil ?_|refine st_dnil ?_|refine st_tN ?_|refine st_seq ?_|refine st_block ?_|refine st_skip ?_|refine st_exit ?_|refine st_ret ?_|refine st_tE ?_|refine st_bH ?_|refine st_noR ?_)
  ·refine ⟨(i+1,g,w),⟨by show i+1≤S.ws.length;omega,hatw,hslw,hfr,hnext (stF_no (by unfold staffAt;rw [show (S.wk i).can (S.j p.length).s=false from (canI ⟨hj.2.2.1,hj.2.2.2.1⟩).1 hg];rfl))⟩,by show S.ws.length - (i+1) < S.ws.length - i;omega,(by (try (try simp only[go_sem,addc2]));repeat' (first|exact trivial|refine And.intro ?_ ?_|rfl|(simp (disch:=omega) only[go_sem,if_yes,if_no,if_no];rfl)|(simp (disch:=omega) only[go_sem,if_yes,if_no,if_no]))),(by (try (try simp only[go_sem,addc2]));repeat' (first|exact trivial|refine And.intro ?_ ?_|rfl|(simp (disch:=omega) only[go_sem,if_yes,if_no,if_no];rfl)|(simp (disch:=omega) only[go_sem,if_yes,if_no,if_no]))),rfl,HOld.tick (by simp only[go_sem];omega)⟩
  ·have hcan:(S.wk i).can (S.j p.length).s=true:=by
    cases hcc:(S.wk i).can (S.j p.length).s with
    | true=>rfl
    | false=>exact absurd ((canI ⟨hj.2.2.1,hj.2.2.2.1⟩).2 hcc) hg
   refine st_loopH (α:=Nat) tab mixed [] [] (by repeat (first|exact trivial|refine ⟨rfl,?_⟩)) [] [] (by repeat (first|exact trivial|refine ⟨rfl,?_⟩)) (fun k=>[(37,.int .i64 (k:Nat))]) [(0,_),(1,_),(2,_),(3,_),(4,_),(5,_),(6,_),(18,_),(19,_),(20,_),(35,_),(36,_)] (fun _=>[]) [] (fun _=>g) (fun k=>k≤p.length∧∀ k',k' < k→clashAt S.js p (days.getD p.length 0) i k'=false) (fun k=>p.length - k) (by decide) 0 ⟨Nat.zero_le _,fun k hk=>absurd hk (Nat.not_lt_zero k)⟩ (by (try simp only[go_sem]);repeat' (first|exact trivial|refine And.intro ?_ ?_|rfl|(simp (disch:=omega) only[go_sem,if_yes,if_no,if_no];rfl)|(simp (disch:=omega) only[go_sem,if_yes,if_no,if_no]))) (by (try simp only[go_sem]);repeat' (first|exact trivial|refine And.intro ?_ ?_|rfl|(simp (disch:=omega) only[go_sem,if_yes,if_no,if_no];rfl)|(simp (disch:=omega) only[go_sem,if_yes,if_no,if_no]))) (HOld.tick (by omega)) ?_
   rintro k c' ⟨hkp,hcl⟩ hc'
   try dsimp only at hc'
   simp only[go_sem]
   by_cases hk:k < p.length
   ·have hq:=hslw
    simp only[SlZ,Lm] at hq
    rcases hq with ⟨_,hq⟩|⟨b,es,rfl,hb1,hb2,hb3,hb4,hb5⟩
    ·rw [List.map_eq_nil_iff.1 hq] at hk;exact absurd hk (Nat.not_lt_zero k)
    have hes:=sf_es hk hb2 hb3
    have hkd:=hpd k hk
    have hkj:=hjo k (by omega)
    have hel:k < es.length:=by omega
    have hwr:wr .i64 (ixF days p.length+(jOf S.js p.length).d)=ixF days p.length+(jOf S.js p.length).d:=wr_i64 (by omega)
    repeat' (first|refine st_seq_reg rfl (by first|(simp only[go_sem,hatw,hb1,hes,Lm,List.append_nil,Nat.zero_add];rfl)|rfl) (by first|(simp only[go_sem,hatw,hb1,hes,Lm,List.append_nil,Nat.zero_add];rfl)|rfl) ?_|refine st_reg rfl (by first|(simp only[go_sem,hatw,hb1,hes,Lm,List.append_nil,Nat.zero_add];rfl)|rfl) (by first|(simp only[go_sem,hatw,hb1,hes,Lm,List.append_nil,Nat.zero_add];rfl)|rfl) ?_|refine st_seq_draw rfl (by first|(simp only[go_sem,hatw,hb1,hes,Lm,List.append_nil,Nat.zero_add];rfl)|rfl) (by first|(simp only[go_sem,hatw,hb1,hes,Lm,List.append_nil,Nat.zero_add];rfl)|rfl) ?_|refine st_op ?_|refine st_det rfl (by simp (disch:=omega) only[go_sem,wr_i64,hatw,hb1,hes,Lm,List.append_nil,Nat.zero_add];rfl) ?_|refine st_dop rfl ?_|refine st_loc rfl (by simp (disch:=omega) only[go_sem,wr_i64,hatw,hb1,hes,Lm,List.append_nil,Nat.zero_add];rfl) ?_|refine st_store (by simp (disch:=omega) only[go_sem,wr_i64,hatw,hb1,hes,Lm,List.append_nil,Nat.zero_add];rfl) ?_|refine st_append (by simp (disch:=omega) only[go_sem,wr_i64,hatw,hb1,hes,Lm,List.append_nil,Nat.zero_add];rfl) ?_|(refine st_callf (args:=[S.av,.slc b 2 0 p.length,.int .i64 (k:Nat)]) rfl rfl (c70h S p k hk (by omega) h7 ⟨by omega,by omega⟩ hkj b es _ hb1 hb2 hb3) ?_;rintro v' h' ⟨⟨n,hn,rfl⟩,rfl⟩)|refine st_dgT rfl rfl rfl rfl ?_|refine st_dgF rfl rfl rfl ?_|(refine st_dgS rfl rfl ?_ ?_ <;> intro hg <;> (try simp only[dcT,dcF,bnT,bnF] at hg))|refine st_condF rfl ?_|(refine st_condS rfl ?_ ?_ <;> intro hg <;> (try simp only[dcT,dcF,bnT,bnF] at hg))|refine st_nil ?_|refine st_dnil ?_|refine st_tN ?_|refine st_seq ?_|refine st_block ?_|refine st_skip ?_|refine st_exit ?_|refine st_tE ?_|refine st_bN ?_|refine st_bH ?_|refine st_bM rfl ?_)
    all_goals try (exfalso;omega)
    ·have hcy:clashAt S.js p (days.getD p.length 0) i k=true:=by
      unfold clashAt
      simp only[Bool.and_eq_true,decide_eq_true_eq]
      refine ⟨⟨by assumption,by assumption⟩,by assumption⟩
     refine ⟨(i+1,g,.slc b 2 0 p.length),⟨by show i+1≤S.ws.length;omega,hatw,hslw,hfr,hnext (stF_no (by unfold staffAt;rw [clash_yes hk hcy];simp))⟩,by show S.ws.length - (i+1) < S.ws.length - i;omega,(by (try (try simp only[go_sem,addc2]));repeat' (first|exact trivial|refine And.intro ?_ ?_|rfl|(simp (disch:=omega) only[go_sem,if_yes,if_no,if_no];rfl)|(simp (disch:=omega) only[go_sem,if_yes,if_no,if_no]))),(by (try (try simp only[go_sem,addc2]));repeat' (first|exact trivial|refine And.intro ?_ ?_|rfl|(simp (disch:=omega) only[go_sem,if_yes,if_no,if_no];rfl)|(simp (disch:=omega) only[go_sem,if_yes,if_no,if_no]))),rfl,HOld.tick (by simp only[go_sem] at *;omega)⟩
    ·refine ⟨k+1,⟨by omega,stepC hcl (by unfold clashAt;rw [hdx];simp [*])⟩,by omega,(by repeat' (first|exact trivial|refine And.intro ?_ ?_|rfl|(simp (disch:=omega) only[go_sem,if_yes,if_no,if_no];rfl)|(simp (disch:=omega) only[go_sem,if_yes,if_no,if_no]))),(by repeat' (first|exact trivial|refine And.intro ?_ ?_|rfl|(simp (disch:=omega) only[go_sem,if_yes,if_no,if_no];rfl)|(simp (disch:=omega) only[go_sem,if_yes,if_no,if_no]))),rfl,HOld.tick (by simp only[go_sem] at *;omega)⟩
    ·refine ⟨k+1,⟨by omega,stepC hcl (by unfold clashAt;rw [hdx];simp [*])⟩,by omega,(by repeat' (first|exact trivial|refine And.intro ?_ ?_|rfl|(simp (disch:=omega) only[go_sem,if_yes,if_no,if_no];rfl)|(simp (disch:=omega) only[go_sem,if_yes,if_no,if_no]))),(by repeat' (first|exact trivial|refine And.intro ?_ ?_|rfl|(simp (disch:=omega) only[go_sem,if_yes,if_no,if_no];rfl)|(simp (disch:=omega) only[go_sem,if_yes,if_no,if_no]))),rfl,HOld.tick (by simp only[go_sem] at *;omega)⟩
    ·refine ⟨k+1,⟨by omega,stepC hcl (by unfold clashAt;simp [*])⟩,by omega,(by repeat' (first|exact trivial|refine And.intro ?_ ?_|rfl|(simp (disch:=omega) only[go_sem,if_yes,if_no,if_no];rfl)|(simp (disch:=omega) only[go_sem,if_yes,if_no,if_no]))),(by repeat' (first|exact trivial|refine And.intro ?_ ?_|rfl|(simp (disch:=omega) only[go_sem,if_yes,if_no,if_no];rfl)|(simp (disch:=omega) only[go_sem,if_yes,if_no,if_no]))),rfl,HOld.tick (by simp only[go_sem] at *;omega)⟩
   ·have ek:k=p.length:=by omega
    subst ek
    have hok:staffAt S days p i=true:=by unfold staffAt;rw [hcan,clash_no hcl];rfl
    repeat' (first|refine st_seq_reg rfl (by first|(simp only[go_sem,hatw,hlenw,hnvw,Lm,List.append_nil,Nat.zero_add];rfl)|rfl) (by first|(simp only[go_sem,hatw,hlenw,hnvw,Lm,List.append_nil,Nat.zero_add];rfl)|rfl) ?_|refine st_seq_draw rfl (by first|(simp only[go_sem,hatw,hlenw,hnvw,Lm,List.append_nil,Nat.zero_add];rfl)|rfl) (by first|(simp only[go_sem,hatw,hlenw,hnvw,Lm,List.append_nil,Nat.zero_add];rfl)|rfl) ?_|refine st_op ?_|refine st_det rfl (by simp (disch:=omega) only[go_sem,wr_i64,hatw,hlenw,hnvw,Lm,List.append_nil,Nat.zero_add];rfl) ?_|refine st_dop rfl ?_|(refine st_condS rfl ?_ ?_ <;> intro hg <;> (try simp only[dcT,dcF,bnT,bnF] at hg))|refine st_nil ?_|refine st_tN ?_|refine st_seq ?_|refine st_block ?_|refine st_skip ?_|refine st_exit ?_|refine st_tE ?_|refine st_bH ?_)
    all_goals try (exfalso;omega)
    refine st_appZ (z:=2) (m:=16) (c0:=c0) (l:=p.map Sf.row) (r:=[.int .i64 (i:Nat),.int .i64 (ixF days p.length)]) (by intro h id x y;simp only[go_sem] <;> rfl) rfl rfl (by decide) rfl (by first|(simp only[go_sem];done)|(simp only[go_sem];rfl)) (by first|(simp only[go_sem];done)|(simp only[go_sem];rfl)) rfl (hSz _ (by omega)) (by simp only[Lm,big];omega) (by omega) (by simp only[go_sem];omega) ?_
    intro v' G hA
    have hcv:=hA.sl.cells
    have hce:=hA.sl.cell
    have hnv':=hA.sl.noL
    have hwb:∀ b:Bid,b.1 < c0→∀ m,w ≠ .slc b 2 0 m:=fun b hb m e=>by
     rcases hslw with ⟨e1,_⟩|⟨b1,es,e1,_,_,_,q,_⟩
     ·rw [e1] at e;cases e
     ·rw [e1] at e;injection e with e2;rw [e2] at q;omega
    have hGat:∀ b:Bid,b.1 < c0→G.at_ b=g.at_ b:=fun b hb=>by
     rw [hA.keep b (hwb b hb) (fun e=>by rw [e] at hb;dsimp only at hb;omega)];rfl
    have hGb:G.at_ bp=some ⟨1,[[w]]⟩:=by rw [hGat bp hbc];exact hatw
    have hGgl:G.gl=gB:=by obtain ⟨b,_,k,e⟩:=hA.ext;rw [e];exact hgl
    have hGlp:G.lp=g.lp:=hA.lp
    have hGclk:G.clk=c'+1+1:=by obtain ⟨b,_,k,e⟩:=hA.ext;rw [e];rfl
    have hrow:p.map Sf.row ++ [[.int .i64 (i:Nat),.int .i64 (ixF days p.length)]]=(p ++ [(⟨((i:Nat):Int),days.getD p.length 0⟩:Sf)]).map Sf.row:=by rw [List.map_append];rfl
    have hslv:=hA.sl
    rw [hrow] at hslv
    have hput:∀ (G2:AH) (v2:AV) (l2:List (List AV)) (u:AV) (n2:Nat),SlZ 2 c0 G2 v2 l2→G2.clk≤n2→SlZ 2 c0 ((G2.tick n2).put bp (some ⟨1,[[u]]⟩)) v2 l2:=fun G2 v2 l2 u n2 hs hn2=>hs.same (fun b q1 _=>put_ne _ _ (fun e=>by rw [e] at q1;omega)) hn2
    have hiW:i < S.ws.length:=by omega
    have hih:=ih d (p ++ [(⟨((i:Nat):Int),days.getD p.length 0⟩:Sf)]) v'
    have hsn:=hst.snoc hiW hok
    have hFg:∀ G2:AH,(∀ b:Bid,b.1 < c0→b ≠ bp→G2.at_ b=G.at_ b)→G2.lp=G.lp→G.clk≤G2.clk→G2.gl=G.gl→Fr c0 bp h G2:=fun G2 h1 h2 h3 h4=>hfr.trans ⟨fun b q1 q2=>(h1 b q1 q2).trans (hGat b q1),h2.trans hGlp,by omega,h4.trans (hGgl.trans hgl.symm)⟩
    cases eD:staffD S days f (p ++ [(⟨((i:Nat):Int),days.getD p.length 0⟩:Sf)]) with
    | none =>
     rw [eD] at hih
     have hsF:stF S days f p i=none:=by unfold stF;rw [hok];exact eD
     repeat' (first|refine st_seq_reg rfl (by first|(simp only[go_sem,hGb,hcv,hce,hnv',Lm,List.append_nil,Nat.zero_add];rfl)|rfl) (by first|(simp only[go_sem,hGb,hcv,hce,hnv',Lm,List.append_nil,Nat.zero_add];rfl)|rfl) ?_|refine st_reg rfl (by first|(simp only[go_sem,hGb,hcv,hce,hnv',Lm,List.append_nil,Nat.zero_add];rfl)|rfl) (by first|(simp only[go_sem,hGb,hcv,hce,hnv',Lm,List.append_nil,Nat.zero_add];rfl)|rfl) ?_|refine st_op ?_|refine st_det rfl (by simp (disch:=omega) only[go_sem,wr_i64,hGb,hcv,hce,hnv',Lm,List.append_nil,Nat.zero_add];rfl) ?_|refine st_dop rfl ?_|refine st_store (by simp (disch:=omega) only[go_sem,wr_i64,hGb,hcv,hce,hnv',Lm,List.append_nil,Nat.zero_add];rfl) ?_|(refine st_call (args:=[]) rfl rfl rfl (hih _ (by omega) (by simp;omega) (by simp;omega) (by simpa using hsn) (put_same _ _ _) (hput G v' _ v' (c'+1+1+1) (hslv.same (fun _ _ _=>rfl) (by show c'+1+1≤G.clk;omega)) (by omega)) (by show c0≤c'+1+1+1;omega) hGgl) ?_;rintro r h' ⟨v2,rfl,hat2,hsl2,hfr2⟩)|refine st_condF rfl ?_|refine st_nil ?_|refine st_dnil ?_|refine st_tN ?_|refine st_seq ?_|refine st_skip ?_)
     have hck:=hfr2.clk
     have hck2:c'+1+1+1≤h'.clk:=hck
     dsimp only[Option.getD] at hsl2
     rw [← hrow] at hsl2
     obtain ⟨b2,rfl,hcut⟩:=hsl2.cut (by simp)
     simp only[List.length_append,Lm,List.length_cons,List.length_nil,Nat.zero_add] at hsl2 hcut hat2
     repeat' (first|refine st_reg rfl (by first|(simp only[go_sem,hat2,Lm,List.append_nil,Nat.zero_add,Int.toNat_zero,Nat.sub_zero];rfl)|rfl) (by first|(simp only[go_sem,hat2,Lm,List.append_nil,Nat.zero_add,Int.toNat_zero,Nat.sub_zero];rfl)|rfl) ?_|refine st_op ?_|refine st_det rfl (by simp (disch:=omega) only[go_sem,wr_i64,hat2,Lm,List.append_nil,Nat.zero_add,Int.toNat_zero,Nat.sub_zero];rfl) ?_|refine st_store (by simp (disch:=omega) only[go_sem,wr_i64,hat2,Lm,List.append_nil,Nat.zero_add,Int.toNat_zero,Nat.sub_zero];rfl) ?_|refine st_nil ?_|refine st_tN ?_|refine st_bN ?_)
     have hfin:Fr c0 bp h ((h'.tick h'.clk).put bp (some ⟨1,[[.slc b2 2 0 p.length]]⟩)):=hFg _ (fun b q1 q2=>by
      rw [put_ne _ _ q2]
      show h'.at_ b=_
      rw [hfr2.at_ b q1 q2,put_ne _ _ q2];rfl) hfr2.lp (by show G.clk≤h'.clk;omega) hfr2.gl
     refine ⟨(i+1,(h'.tick h'.clk).put bp (some ⟨1,[[.slc b2 2 0 p.length]]⟩),.slc b2 2 0 p.length),⟨by show i+1≤S.ws.length;omega,put_same _ _ _,hput h' _ _ _ _ hcut (Nat.le_refl _),hfin,hnext hsF⟩,by show S.ws.length - (i+1) < S.ws.length - i;omega,(by (try (try simp only[go_sem,addc2]));repeat' (first|exact trivial|refine And.intro ?_ ?_|rfl|(simp (disch:=omega) only[go_sem,if_yes,if_no,if_no];rfl)|(simp (disch:=omega) only[go_sem,if_yes,if_no,if_no]))),(by (try (try simp only[go_sem,addc2]));repeat' (first|exact trivial|refine And.intro ?_ ?_|rfl|(simp (disch:=omega) only[go_sem,if_yes,if_no,if_no];rfl)|(simp (disch:=omega) only[go_sem,if_yes,if_no,if_no]))),rfl,HOld.of' (by omega)⟩
    | some q =>
     rw [eD] at hih
     have hsF:stF S days f p i=some q:=by unfold stF;rw [hok];exact eD
     have hall:=findSome_hit hiW hnone hsF
     repeat' (first|refine st_seq_reg rfl (by first|(simp only[go_sem,hGb,hcv,hce,hnv',Lm,List.append_nil,Nat.zero_add];rfl)|rfl) (by first|(simp only[go_sem,hGb,hcv,hce,hnv',Lm,List.append_nil,Nat.zero_add];rfl)|rfl) ?_|refine st_op ?_|refine st_det rfl (by simp (disch:=omega) only[go_sem,wr_i64,hGb,hcv,hce,hnv',Lm,List.append_nil,Nat.zero_add];rfl) ?_|refine st_dop rfl ?_|refine st_store (by simp (disch:=omega) only[go_sem,wr_i64,hGb,hcv,hce,hnv',Lm,List.append_nil,Nat.zero_add];rfl) ?_|(refine st_call (args:=[]) rfl rfl rfl (hih _ (by omega) (by simp;omega) (by simp;omega) (by simpa using hsn) (put_same _ _ _) (hput G v' _ v' (c'+1+1+1) (hslv.same (fun _ _ _=>rfl) (by show c'+1+1≤G.clk;omega)) (by omega)) (by show c0≤c'+1+1+1;omega) hGgl) ?_;rintro r h' ⟨v2,rfl,hat2,hsl2,hfr2⟩)|refine st_condT rfl ?_|refine st_nil ?_|refine st_dnil ?_|refine st_seq ?_|refine st_ret ?_|refine st_tR ?_|refine st_bR ?_|refine st_noR ?_)
     have hck:=hfr2.clk
     have hck2:c'+1+1+1≤h'.clk:=hck
     dsimp only[Option.getD] at hsl2
     repeat' (first|refine st_seq_reg rfl (by first|(simp only[go_sem,hat2,Lm,List.append_nil,Nat.zero_add];rfl)|rfl) (by first|(simp only[go_sem,hat2,Lm,List.append_nil,Nat.zero_add];rfl)|rfl) ?_)
     simp (disch:=omega) only[AEnd,Tryz.results105,aresK,fin,go_sem,implies_true,true_and,and_true,List.reverse_cons,List.reverse_nil]
     rw [hall]
     refine ⟨v2,rfl,hat2,hsl2.same (fun _ _ _=>rfl) (by simp only[go_sem];omega),hFg _ (fun b q1 q2=>?_) hfr2.lp (by simp only[go_sem];omega) hfr2.gl⟩
     show h'.at_ b=_
     rw [hfr2.at_ b q1 q2,put_ne _ _ q2];rfl
  ·simp (disch:=omega) only[AEnd,Tryz.results105,aresK,fin,go_sem,implies_true,true_and,and_true,List.reverse_cons,List.reverse_nil]
   have e:i=S.ws.length:=by omega
   subst e
   rw [findSome_range hnone]
   exact ⟨w,rfl,hatw,hSz _ (by omega),hfr.tick (by omega)⟩
end Go.Proofs.YtaijkalhkgjakaaGreatDoor

namespace Go.Proofs.YtaijkalhkgjakaaGreatDoor
open Go.Av
attribute [local irreducible] thenA blockA awp awpOps awpD awp1
attribute [local go_sem_proc] Nat.reduceAdd Nat.reduceMul Nat.reduceEqDiff Nat.reduceBEq Nat.reduceLeDiff
attribute [local go_sem_proc ↓] reduceIte
attribute [local go_sem] if_yes if_no
set_option maxHeartbeats 8000000
set_option maxRecDepth 20000
def stfP (S:Sp) (days:List Int):List Sf:=(staffD S days (S.js.length+1) []).getD []
theorem c72 (S:Sp) (hS:S.Ok) (days:List Int) (hdl:days.length=7) (hdb:∀ i,0≤days.getD i 0∧days.getD i 0≤3000) :
  PureG gB Tryz.prog 72 [S.av,.agg (aC 7 (ixF days))] (fun v=>v=.lst 2 ((stfP S days).map Sf.row)):=by
 refine PureG.give Tryz.call72 ?_
 intro h hgl hold
 refine ACalls.ofS tab Tryz.call72 Tryz.func72 rfl (fi:=⟨11,[],[2,3],none,[]⟩) rfl rfl (Nat.le_of_ble_eq_true rfl) ?_
 unfold startA
 try simp only[go_sem]
 refine asem_seq (fi:=⟨11,[],[2,3],none,[]⟩) tab mixed (by decide) ?_
 repeat' (first|refine st_reg rfl (by first|(simp only[go_sem];rfl)|rfl) (by first|(simp only[go_sem];rfl)|rfl) ?_|refine st_op ?_|refine st_det rfl (by simp (disch:=omega) only[go_sem,wr_i64];rfl) ?_|refine st_nil ?_|refine st_tN ?_)
 refine asem_seq (fi:=⟨11,[],[2,3],none,[]⟩) tab mixed (by decide) ?_
 repeat' (first|refine st_reg rfl (by first|(simp only[go_sem];rfl)|rfl) (by first|(simp only[go_sem];rfl)|rfl) ?_|refine st_op ?_|refine st_heap rfl (by simp (disch:=omega) only[go_sem,wr_i64];rfl) ?_|refine st_nil ?_|refine st_tN ?_)
 refine asem_seq (fi:=⟨11,[],[2,3],none,[]⟩) tab mixed (by decide) ?_
 repeat' (first|refine st_reg rfl (by first|(simp only[go_sem];rfl)|rfl) (by first|(simp only[go_sem];rfl)|rfl) ?_|refine st_op ?_|refine st_heap rfl (by simp (disch:=omega) only[go_sem,wr_i64];rfl) ?_|refine st_nil ?_|refine st_tN ?_)
 refine asem_seq (fi:=⟨11,[],[2,3],none,[]⟩) tab mixed (by decide) ?_
 repeat' (first|refine st_reg rfl (by first|(simp only[go_sem,aC_take,dC_take];rfl)|rfl) (by first|(simp only[go_sem,aC_take,dC_take];rfl)|rfl) ?_|refine st_op ?_|refine st_det rfl (by simp (disch:=omega) only[go_sem,wr_i64,aC_take,dC_take];rfl) ?_|refine st_store (by simp (disch:=omega) only[go_sem,wr_i64,aC_take,dC_take];rfl) ?_|refine st_nil ?_|refine st_tN ?_)
 refine ASem.knot (b:=(h.clk+1+1,6)) (g:=.func 105) (cap:=scap S days (h.clk+1,5)) 6 (S.js.length+1+1) (by simp only[go_sem,↓reduceIte,Nat.reduceEqDiff]) (by simp only[go_sem,↓reduceIte];rfl) ?_
 simp only[knot_s]
 refine asem_awp (fi:=⟨11,[],[2,3],none,[]⟩) tab mixed (by decide) ?_
 repeat' (first|refine st_seq_reg rfl (by first|(simp only[go_sem];rfl)|rfl) (by first|(simp only[go_sem];rfl)|rfl) ?_|refine st_op ?_|refine st_det rfl (by simp (disch:=omega) only[go_sem,wr_i64];rfl) ?_|(refine st_call (args:=[]) rfl rfl rfl (c105 S hS days hdl hdb (h.clk+1,5) (h.clk+1+1) (by show h.clk+1 < h.clk+1+1;omega) (S.js.length+1) (S.js.length+1) [] .nils _ (Nat.le_refl _) (by simp) (Nat.zero_le _) ⟨fun i hi=>absurd hi (Nat.not_lt_zero i),fun _ i _ hi=>absurd hi (Nat.not_lt_zero i)⟩ (by simp (disch:=omega) only[go_sem,↓reduceIte]) (.inl ⟨rfl,rfl⟩) (by show h.clk+1+1≤h.clk+1+1+1+1+1;omega) hgl) ?_;rintro r h' ⟨v2,rfl,hat2,hsl2,hfr2⟩)|refine st_nil ?_)
 have hnv:=hsl2.noL
 repeat' (first|refine st_op ?_|refine st_det rfl (by simp (disch:=omega) only[go_sem,wr_i64,hat2];rfl) ?_|refine st_nil ?_|refine st_ret ?_)
 simp (disch:=omega) only[AEnd,Tryz.results72,aresK,fin,go_sem,implies_true,true_and,and_true,List.reverse_cons,List.reverse_nil]
 have hc:=hfr2.clk
 have hc2:h.clk+1+1+1+1+1≤h'.clk:=hc
 refine ⟨hnv,fun b hb=>?_,hfr2.lp,?_⟩
 ·show h'.at_ b=_
  have e1:b ≠ (h.clk+1,5):=fun e=>by rw [e] at hb;dsimp only at hb;omega
  have e2:b ≠ (h.clk+1+1,6):=fun e=>by rw [e] at hb;dsimp only at hb;omega
  rw [hfr2.at_ b (by omega) e1,put_ne _ _ e2,put_ne _ _ e1];rfl
 ·rcases hsl2 with ⟨rfl,e⟩|⟨b,es,rfl,q1,q2,q3,q4,q5⟩
  ·refine .inl ⟨_,VLe.nils 2,?_⟩
   unfold stfP;rw [e]
  ·refine .inr ⟨b,⟨2,es⟩,by omega,q1,?_⟩
   unfold stfP
   rw [Lm] at q2 q3
   simp only[frz,Lm,List.drop_zero,Nat.zero_add,and_self,if_true]
   rw [if_pos ⟨trivial,q2⟩,q3]
end Go.Proofs.YtaijkalhkgjakaaGreatDoor

namespace Go.Proofs.YtaijkalhkgjakaaGreatDoor
open Go.Av
attribute [local irreducible] thenA blockA awp awpOps awpD awp1
attribute [local go_sem_proc] Nat.reduceAdd Nat.reduceMul Nat.reduceEqDiff Nat.reduceBEq Nat.reduceLeDiff
attribute [local go_sem_proc ↓] reduceIte
attribute [local go_sem] if_yes if_no
set_option maxHeartbeats 8000000
set_option maxRecDepth 20000
theorem cmpI_pos {a b:Int}:0 < cmpI a b ↔ b < a:=by unfold cmpI;split <;> (try split) <;> omega
theorem c75 (es:List Int) (h0:es ≠ []) (hl:(es.length:Int) < 1000000):Pure Tryz.prog 75 [.lst 1 (es.map iv),.fn (.func 76) [] []] (fun v=>v=.int .i64 (maxL es)):=by
 have h1:0 < es.length:=List.length_pos_iff.2 h0
 intro h
 refine ACalls.forget (ACalls.of tab mixed Tryz.call75 Tryz.func75 rfl (fi:=⟨33,[],[],none,[]⟩) rfl rfl (Nat.le_of_ble_eq_true rfl) (by decide) ?_)
 unfold startA
 repeat' (first|refine st_seq_reg rfl (by first|(simp only[go_sem];rfl)|rfl) (by first|(simp only[go_sem];rfl)|rfl) ?_|refine st_reg rfl (by first|(simp only[go_sem];rfl)|rfl) (by first|(simp only[go_sem];rfl)|rfl) ?_|refine st_op ?_|refine st_det rfl (by simp (disch:=omega) only[go_sem,wr_i64];rfl) ?_|(refine st_condS rfl ?_ ?_ <;> intro hg <;> (try simp only[dcT,dcF,bnT,bnF] at hg))|refine st_nil ?_|refine st_tN ?_|refine st_seq ?_|refine st_block ?_|refine st_skip ?_)
 all_goals try (exfalso;omega)
 refine st_loopC (α:=Nat) tab mixed [] [] (by repeat (first|exact trivial|refine ⟨rfl,?_⟩)) [] [] (by repeat (first|exact trivial|refine ⟨rfl,?_⟩)) (fun i=>[(6,.int .i64 i),(5,.int .i64 (mxN es (i - 1)))]) [(0,_),(1,_),(4,_)] (fun _=>[]) [] (fun i=>1≤i∧i≤es.length) (fun i=>es.length - i) (by decide) 1 ⟨Nat.le_refl _,by omega⟩ (by (try simp only[go_sem]);repeat' (first|exact trivial|refine And.intro ?_ ?_|rfl|(simp (disch:=omega) only[go_sem,if_yes,if_no,if_no];rfl)|(simp (disch:=omega) only[go_sem,if_yes,if_no,if_no]))) (by (try simp only[go_sem]);repeat' (first|exact trivial|refine And.intro ?_ ?_|rfl|(simp (disch:=omega) only[go_sem,if_yes,if_no,if_no];rfl)|(simp (disch:=omega) only[go_sem,if_yes,if_no,if_no]))) (by first|(simp only[go_sem];rfl)|rfl) (by intro n;simp only[go_sem];rfl) ?_
 rintro i c ⟨hi1,hi'⟩ hc
 simp only[go_sem]
 have e:mxN es i=max (mxN es (i - 1)) (es.getD i 0):=by
  obtain ⟨j,rfl⟩:∃ j,i=j+1:=⟨i - 1,by omega⟩
  rfl
 repeat' (first|refine st_seq_reg rfl (by first|(simp only[go_sem];rfl)|rfl) (by first|(simp only[go_sem];rfl)|rfl) ?_|refine st_reg rfl (by first|(simp only[go_sem];rfl)|rfl) (by first|(simp only[go_sem];rfl)|rfl) ?_|refine st_op ?_|refine st_det rfl (by simp (disch:=omega) only[go_sem,wr_i64];rfl) ?_|(refine st_pureV (by first|(simp only[go_sem];rfl)|rfl) (by first|(simp (disch:=omega) only[go_sem];rfl)|rfl) rfl (c76 _ _) (by first|(simp only[go_sem];rfl)|rfl) (by intro n;first|(simp (disch:=omega) only[go_sem];rfl)|rfl) ?_;intro v n hv hn;subst hv)|(refine st_condS rfl ?_ ?_ <;> intro hg <;> (try simp only[dcT,dcF,bnT,bnF] at hg))|refine st_nil ?_|refine st_tN ?_|refine st_seq ?_|refine st_block ?_|refine st_skip ?_|refine st_exit ?_|refine st_ret ?_|refine st_tE ?_|refine st_bN ?_|refine st_bH ?_)
 all_goals try (exfalso;omega)
 ·have h2:=cmpI_pos.1 hg
  refine ⟨i+1,⟨by omega,by omega⟩,by omega,(by (try (rw [Nat.add_sub_cancel,e,Int.max_eq_right (by omega)]));repeat' (first|exact trivial|refine And.intro ?_ ?_|rfl|(simp (disch:=omega) only[go_sem,if_yes,if_no,if_no];rfl)|(simp (disch:=omega) only[go_sem,if_yes,if_no,if_no]))),(by (try (rw [Nat.add_sub_cancel,e,Int.max_eq_right (by omega)]));repeat' (first|exact trivial|refine And.intro ?_ ?_|rfl|(simp (disch:=omega) only[go_sem,if_yes,if_no,if_no];rfl)|(simp (disch:=omega) only[go_sem,if_yes,if_no,if_no]))),rfl,(by first|exact HOld.of _ (by omega)|exact HOld.put _ _ _ (by omega))⟩
 ·have h2:¬ mxN es (i - 1) < es.getD i 0:=fun q=>hg (cmpI_pos.2 q)
  refine ⟨i+1,⟨by omega,by omega⟩,by omega,(by (try (rw [Nat.add_sub_cancel,e,Int.max_eq_left (by omega)]));repeat' (first|exact trivial|refine And.intro ?_ ?_|rfl|(simp (disch:=omega) only[go_sem,if_yes,if_no,if_no];rfl)|(simp (disch:=omega) only[go_sem,if_yes,if_no,if_no]))),(by (try (rw [Nat.add_sub_cancel,e,Int.max_eq_left (by omega)]));repeat' (first|exact trivial|refine And.intro ?_ ?_|rfl|(simp (disch:=omega) only[go_sem,if_yes,if_no,if_no];rfl)|(simp (disch:=omega) only[go_sem,if_yes,if_no,if_no]))),rfl,(by first|exact HOld.of _ (by omega)|exact HOld.put _ _ _ (by omega))⟩
 ·have e:i=es.length:=by omega
  rw [mxN_take (i - 1) (by omega),show i - 1+1=es.length by omega,List.take_length]
  simp (disch:=omega) only[AEnd,Tryz.results75,aresK,fin,go_sem,implies_true,true_and,and_true,List.reverse_cons,List.reverse_nil]
end Go.Proofs.YtaijkalhkgjakaaGreatDoor
