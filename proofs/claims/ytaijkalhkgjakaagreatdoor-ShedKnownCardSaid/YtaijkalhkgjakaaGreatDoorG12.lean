/- Contracts of functions that the claim reaches: what each call gives, told in our own logic. Conditions: those of each theorem. -/
import Derived.Test.YtaijkalhkgjakaaGreatDoorG8
import Derived.Test.YtaijkalhkgjakaaGreatDoorBaseD
open Nat (reduceEqDiff)
open List (length_map)
set_option linter.all false
set_option linter.unusedSimpArgs false
set_option linter.unusedVariables false
namespace Go.Proofs.YtaijkalhkgjakaaGreatDoor
open Go.Av
attribute [local irreducible] thenA blockA awp awpOps awpD awp1
attribute [local go_sem_proc] Nat.reduceAdd Nat.reduceMul reduceEqDiff Nat.reduceBEq Nat.reduceLeDiff
attribute [local go_sem_proc ↓] reduceIte
attribute [local go_sem] if_yes if_no
set_option maxHeartbeats 8000000
set_option maxRecDepth 20000
theorem c103h (a b:List Int) (hl:a.length=b.length) (hb:(b.length:Int) < 1000000) (bid:Bid) (h:AH) (hat:h.at_ bid=some ⟨1,b.map iv⟩):ACalls Tryz.prog 103 [.lst 1 (a.map iv),.slc bid 1 0 b.length] h (fun v h'=>Later h h'∧v=.int .i64 (cmpL a b)):=by
 refine ACalls.forget (ACalls.of tab mixed Tryz.call103 Tryz.func103 rfl (fi:=⟨36,[],[],none,[]⟩) rfl rfl (Nat.le_of_ble_eq_true rfl) (by decide) ?_)
 unfold startA
 repeat' (first|refine st_seq_reg rfl (by first|(simp only[go_sem,hat];rfl)|rfl) (by first|(simp only[go_sem,hat];rfl)|rfl) ?_|refine st_op ?_|refine st_det rfl (by simp (disch:=omega) only[go_sem,wr_i64,hat];rfl) ?_|refine st_nil ?_|refine st_seq ?_|refine st_block ?_)
 refine st_loopC (α:=Nat) tab mixed [] [] (by repeat (first|exact trivial|refine ⟨rfl,?_⟩)) [] [] (by repeat (first|exact trivial|refine ⟨rfl,?_⟩)) (fun i=>[(11,.int .i64 i)]) [(0,_),(1,_),(4,_),(9,_),(10,_)] (fun _=>[]) [] (fun i=>i≤a.length∧cmpL (a.drop i) (b.drop i)=cmpL a b) (fun i=>a.length - i) (by decide) 0 ⟨Nat.zero_le _,rfl⟩ (by (try simp only[go_sem]);repeat' (first|exact trivial|refine And.intro ?_ ?_|rfl|(simp (disch:=omega) only[go_sem,if_yes,if_no,if_no];rfl)|(simp (disch:=omega) only[go_sem,if_yes,if_no,if_no]))) (by (try simp only[go_sem]);repeat' (first|exact trivial|refine And.intro ?_ ?_|rfl|(simp (disch:=omega) only[go_sem,if_yes,if_no,if_no];rfl)|(simp (disch:=omega) only[go_sem,if_yes,if_no,if_no]))) (by first|(simp only[go_sem];rfl)|rfl) (by intro n;simp only[go_sem];rfl) ?_
 rintro i c ⟨hi',hall⟩ hc
 simp only[go_sem]
 have hcd:i < a.length→_:=fun h=>cmpL_drop (a:=a) (b:=b) (i:=i) h (by omega)
 repeat' (first|refine st_seq_reg rfl (by first|(simp only[go_sem,hat,Lm,Nat.zero_add];rfl)|rfl) (by first|(simp only[go_sem,hat,Lm,Nat.zero_add];rfl)|rfl) ?_|refine st_reg rfl (by first|(simp only[go_sem,hat,Lm,Nat.zero_add];rfl)|rfl) (by first|(simp only[go_sem,hat,Lm,Nat.zero_add];rfl)|rfl) ?_|refine st_op ?_|refine st_det rfl (by simp (disch:=omega) only[go_sem,wr_i64,hat,Lm,Nat.zero_add];rfl) ?_|(refine st_pureE (by first|(simp (disch:=omega) only[go_sem,hat,Lm,Nat.zero_add];rfl)|rfl) rfl (c76 _ _) (by first|(simp only[go_sem,hat,Lm,Nat.zero_add];rfl)|rfl) (by intro n;first|(simp (disch:=omega) only[go_sem];rfl)|rfl) ?_;intro n hn)|(refine st_condS rfl ?_ ?_ <;> intro hg <;> (try simp only[dcT,dcF,bnT,bnF] at hg))|refine st_nil ?_|refine st_tN ?_|refine st_seq ?_|refine st_block ?_|refine st_skip ?_|refine st_exit ?_|refine st_ret ?_|refine st_tE ?_|refine st_tR ?_|refine st_bN ?_|refine st_bR ?_|refine st_bH ?_)
 all_goals try (exfalso;omega)
 ·simp (disch:=omega) only[AEnd,Tryz.results103,aresK,fin,go_sem,implies_true,true_and,and_true,List.reverse_cons,List.reverse_nil]
  have h1:=hcd (by omega)
  rw [← hall,h1]
  unfold cmpI at hg ⊢
  split
  ·rfl
  ·rename_i h2
   rw [if_neg h2] at hg
   split
   ·rfl
   ·rename_i h3
    rw [if_neg h3] at hg
    exact absurd rfl hg
 ·refine ⟨i+1,⟨by omega,by have h3:=cmpI_0 (Decidable.of_not_not hg);rw [← hall,hcd (by omega),if_neg h3.1,if_neg h3.2]⟩,by omega,(by repeat' (first|exact trivial|refine And.intro ?_ ?_|rfl|(simp (disch:=omega) only[go_sem,if_yes,if_no,if_no];rfl)|(simp (disch:=omega) only[go_sem,if_yes,if_no,if_no]))),(by repeat' (first|exact trivial|refine And.intro ?_ ?_|rfl|(simp (disch:=omega) only[go_sem,if_yes,if_no,if_no];rfl)|(simp (disch:=omega) only[go_sem,if_yes,if_no,if_no]))),rfl,(by first|exact HOld.of _ (by omega)|exact HOld.put _ _ _ (by omega))⟩
 ·simp (disch:=omega) only[AEnd,Tryz.results103,aresK,fin,go_sem,implies_true,true_and,and_true,List.reverse_cons,List.reverse_nil]
  have e:i=a.length:=by omega
  rw [← hall,e,List.drop_length,hl,List.drop_length];rfl
end Go.Proofs.YtaijkalhkgjakaaGreatDoor

namespace Go.Proofs.YtaijkalhkgjakaaGreatDoor
open Go.Av
attribute [local irreducible] thenA blockA awp awpOps awpD awp1
attribute [local go_sem_proc] Nat.reduceAdd Nat.reduceMul reduceEqDiff Nat.reduceBEq Nat.reduceLeDiff
attribute [local go_sem_proc ↓] reduceIte
attribute [local go_sem] if_yes if_no
set_option maxHeartbeats 8000000
set_option maxRecDepth 20000
def Rt (S:Sp) (x:Dr):Prop:=(∃ W,PAt S W x)∧Low S x∧x.last≤210
theorem Rt.bd {S:Sp} (hS:S.Ok) {x:Dr} (h:Rt S x):x.Bd 1000:=by
 obtain ⟨⟨W,P⟩,L,hl⟩:=h
 obtain ⟨_,n2,n3⟩:=P.nonneg hS
 have h7:=hS.n7
 exact ⟨fun i=>⟨n2 i,by have:=L.h i;omega⟩,fun i=>⟨n3 i,by have:=L.f i;omega⟩,P.last,by omega⟩
theorem Rt.sz {S:Sp} {x:Dr} (h:Rt S x):x.Sz S:=h.1.choose_spec.sz
theorem Rt.next {S:Sp} (hS:S.Ok) {x y:Dr} (h:Rt S x) (hy:y ∈ nextD S x):Rt S y:=by
 obtain ⟨⟨W,P⟩,L,hl⟩:=h
 obtain ⟨job,i,hj,hi,hs⟩:=mem_nextD.1 hy
 obtain ⟨a,b,_,rfl⟩:=nextAt_some hs
 refine ⟨⟨_,P.next hS hj hi a b⟩,L.next hS P hj hi (P.ready hj a).1,?_⟩
 have h1:=L.h i
 have h2:=L.f (S.j job).f.toNat
 have h7:=hS.n7
 show max (x.hands.getD i 0) (x.fls.getD (S.j job).f.toNat 0)≤210
 omega
theorem Rt.start (S:Sp):Rt S dr0:=⟨⟨fun _=>0,PAt.start S _⟩,Low.start S,by decide⟩
structure StH (bf bb:Bid) (st:List Int × Int) (g:AH):Prop where
 f:g.at_ bf=some ⟨1,[[.int .i64 st.2]]⟩
 b:g.at_ bb=some ⟨1,st.1.map iv⟩
 l:st.1.length=7
 n:-1≤st.2∧st.2≤3000
structure Kp (bf bb:Bid) (h g:AH):Prop where
 at_:∀ b,b.1 < h.clk→b ≠ bf→b ≠ bb→g.at_ b=h.at_ b
 lp:g.lp=h.lp
 clk:h.clk≤g.clk
 gl:g.gl=h.gl
theorem Kp.tick {bf bb:Bid} {h g:AH} (k:Kp bf bb h g) {n:Nat} (hn:g.clk≤n):Kp bf bb h (g.tick n):=⟨k.at_,k.lp,Nat.le_trans k.clk hn,k.gl⟩
theorem StH.tick {bf bb:Bid} {st:List Int × Int} {g:AH} (k:StH bf bb st g) (n:Nat):StH bf bb st (g.tick n):=⟨k.f,k.b,k.l,k.n⟩
theorem leastD_bd {S:Sp} (hS:S.Ok) {x:Dr} (z:x.Sz S) (b:x.Bd 1000):0≤(leastD S x).1∧(leastD S x).1≤3000∧(leastD S x).2.length=7:=by
 obtain ⟨hb1,hb2,hb3⟩:=lstep_bd hS z b S.js.length (Nat.le_refl _)
 have hlen:=lstep_len (js:=S.js) (x:=x) S.js.length
 rw [z.fls,z.day] at hlen
 have h7:=hS.n7
 have h0:=hS.m0
 have h4:=hS.m4
 have hes:((lstep S.js x S.js.length).1 ++ x.hands) ≠ []:=by intro e;have:=congrArg List.length e;simp [z.hands] at this
 have hm0:0≤maxL ((lstep S.js x S.js.length).1 ++ x.hands):=Int.le_trans (b.h 0).1 (maxL_ge (List.mem_append.2 (.inr (getD_mem (by rw [z.hands];omega)))))
 have hmx:maxL ((lstep S.js x S.js.length).1 ++ x.hands)≤2000:=by
  obtain ⟨j,hj,e⟩:=mem_getD (maxL_mem hes)
  rw [← e,getD_append]
  split
  ·have:=hb1 j;omega
  ·have:=b.h (j - (lstep S.js x S.js.length).1.length);omega
 have hfr:=freeD_bd b S.ws.length
 refine ⟨?_,?_,hlen.2⟩
 ·simp only[leastD];split <;> omega
 ·simp only[leastD]
  split
  ·have hA:0≤freeD x S.ws.length+(lstep S.js x S.js.length).2.2+S.ws.length - 1:=by omega
   have hm1:(1:Int)≤S.ws.length:=by omega
   have hq:(freeD x S.ws.length+(lstep S.js x S.js.length).2.2+S.ws.length - 1).tdiv S.ws.length≤3000:=by
    rw [Int.tdiv_eq_ediv_of_nonneg hA]
    have:(freeD x S.ws.length+(lstep S.js x S.js.length).2.2+S.ws.length - 1) / S.ws.length < 3001:=Int.ediv_lt_of_lt_mul (by omega) (by
     have e:freeD x S.ws.length≤1000 * S.ws.length:=hfr.2
     have e2:(3001:Int) * S.ws.length=1000 * S.ws.length+2001 * S.ws.length:=by omega
     omega)
    omega
   omega
  ·omega
def ecap (S:Sp) (bf bb:Bid):List AV:=[.iptr [.lst 3 (S.ws.map Wk.row),.lst 3 (S.js.map Jb.row)] 0,.ptr bf 0 0,.aptr bb 7 0]
@[go_sem] theorem knot_e (S:Sp) (bf bb:Bid) (n:Nat):knot (.func 101) (ecap S bf bb) (n+1)=.iptr [.fn (.func 101) [] [.iptr [.lst 3 (S.ws.map Wk.row),.lst 3 (S.js.map Jb.row)] 0,.ptr bf 0 0,.aptr bb 7 0,knot (.func 101) (ecap S bf bb) n]] 0:=rfl
theorem doneI {S:Sp} {x:Dr} (h7:S.js.length≤7):decide ((x.pl:Int)=wr .i64 (shl .i64 1 (S.js.length:Nat) - 1))=done S x:=by
 have:∀ k:Fin 8,wr .i64 (shl .i64 1 (k.val:Nat) - 1)=((2 ^ k.val - 1:Nat):Int):=by decide +kernel
 have h2:=this ⟨S.js.length,by omega⟩
 dsimp only at h2
 rw [h2]
 unfold done
 by_cases e:x.pl=2 ^ S.js.length - 1
 ·rw [e];simp
 ·simp [e];omega
theorem flat_iv (l:List Int):(l.map iv).flatten=aC l.length (ixF l):=by
 rw [← flatten_single (aC l.length (ixF l)),aC_rows l l.length rfl]
theorem _root_.Go.Av.HOld.of' {h:AH} {m n:Nat} {b:Bid} {k:Option Blk} (hn:m≤n):HOld ((h.tick m).put b k) ((h.tick n).put b k):=HOld.put _ _ _ hn
theorem c101 (S:Sp) (hS:S.Ok) (bf bb:Bid) (hfb:bf ≠ bb):∀ (f d:Nat) (x:Dr) (st:List Int × Int) (h:AH),f≤d→Rt S x→open_ x S.js.length < f→StH bf bb st h→h.gl=gB→bf.1 < h.clk→bb.1 < h.clk →
  ACalls Tryz.prog 101 [x.av,.iptr [.lst 3 (S.ws.map Wk.row),.lst 3 (S.js.map Jb.row)] 0,.ptr bf 0 0,.aptr bb 7 0,knot (.func 101) (ecap S bf bb) d] h (fun _ h'=>StH bf bb (tryD S f x st) h'∧Kp bf bb h h'):=by
 intro f
 induction f with
 | zero=>intro d x st h _ _ ho;exact absurd ho (Nat.not_lt_zero _)
 | succ f ih =>
  intro d x st h hd hx ho hst hgl hf1 hb1
  obtain ⟨d,rfl⟩:∃ d',d=d'+1:=⟨d - 1,by omega⟩
  have z:=hx.sz
  have b:=hx.bd hS
  have h7:=hS.n7
  obtain ⟨hlb1,hlb2,hlb3⟩:=leastD_bd hS z b
  have hstf:=hst.f
  have hstb:=hst.b
  have hstl:=hst.l
  have hstn:=hst.n
  have hls:=c102 S x hS z b
  have hnb:∀ n,¬ bb=(n+1,7) ∨ n+1 < h.clk:=fun n=>by
   by_cases e:bb=(n+1,7)
   ·right;rw [e] at hb1;exact hb1
   ·exact .inl e
  have hargs:VLes [.lstx 1 ((aC 7 (ixF (leastD S x).2)).map fun x=>[x]),.slc bb 1 0 7] [.lst 1 ((leastD S x).2.map iv),.slc bb 1 0 st.1.length]:=by
   simp only[VLes]
   rw [aC_rows _ _ hlb3,hstl]
   exact ⟨_,_,rfl,VLe.lstx _ _,_,_,rfl,VLe.refl _,rfl⟩
  unfold Dr.av at hls ⊢
  refine ACalls.ofS tab Tryz.call101 Tryz.func101 rfl (fi:=⟨51,[8],[5],none,[(2,[0,1,3,7,7,31,63,127,127,511,1023,2047,2047,8191,16383,32767,65535,131071],[(0,false),(1,false),(2,false),(3,false),(4,false),(5,false),(6,false),(7,false),(8,false),(9,false),(10,false),(11,false),(12,false),(13,false),(14,false),(15,false),(16,false),(17,false)]),(3,[0,1,0,4,12,28,60,127],[(0,false),(1,true),(2,false),(3,true),(4,false),(5,false),(6,false),(7,false)])]⟩) rfl rfl (Nat.le_of_ble_eq_true rfl) ?_
  unfold startA
  try simp only[go_sem]
  refine asem_seq (fi:=⟨51,[8],[5],none,[(2,[0,1,3,7,7,31,63,127,127,511,1023,2047,2047,8191,16383,32767,65535,131071],[(0,false),(1,false),(2,false),(3,false),(4,false),(5,false),(6,false),(7,false),(8,false),(9,false),(10,false),(11,false),(12,false),(13,false),(14,false),(15,false),(16,false),(17,false)]),(3,[0,1,0,4,12,28,60,127],[(0,false),(1,true),(2,false),(3,true),(4,false),(5,false),(6,false),(7,false)])]⟩) tab mixed (by decide) ?_
  repeat' (first|refine st_reg rfl (by first|(simp only[go_sem];rfl)|rfl) (by first|(simp only[go_sem];rfl)|rfl) ?_|refine st_op ?_|refine st_det rfl (by simp (disch:=omega) only[go_sem,wr_i64];rfl) ?_|refine st_nil ?_|refine st_tN ?_)
  refine asem_seq (fi:=⟨51,[8],[5],none,[(2,[0,1,3,7,7,31,63,127,127,511,1023,2047,2047,8191,16383,32767,65535,131071],[(0,false),(1,false),(2,false),(3,false),(4,false),(5,false),(6,false),(7,false),(8,false),(9,false),(10,false),(11,false),(12,false),(13,false),(14,false),(15,false),(16,false),(17,false)]),(3,[0,1,0,4,12,28,60,127],[(0,false),(1,true),(2,false),(3,true),(4,false),(5,false),(6,false),(7,false)])]⟩) tab mixed (by decide) ?_
  repeat' (first|refine st_reg rfl (by first|(simp only[go_sem,dC_take,List.append_nil,aC_take];rfl)|rfl) (by first|(simp only[go_sem,dC_take,List.append_nil,aC_take];rfl)|rfl) ?_|refine st_op ?_|refine st_det rfl (by simp (disch:=omega) only[go_sem,wr_i64,dC_take,List.append_nil,aC_take];rfl) ?_|refine st_heap rfl (by simp (disch:=omega) only[go_sem,wr_i64,dC_take,List.append_nil,aC_take];rfl) ?_|refine st_store (by simp (disch:=omega) only[go_sem,wr_i64,dC_take,List.append_nil,aC_take];rfl) ?_|(refine st_pureE (by first|(simp (disch:=omega) only[go_sem,dC_take,List.append_nil,aC_take];rfl)|rfl) rfl (hls) (by first|(simp only[go_sem,dC_take,List.append_nil,aC_take];rfl)|rfl) (by intro n;first|(simp (disch:=omega) only[go_sem];rfl)|rfl) ?_;intro n hn)|refine st_nil ?_|refine st_tN ?_)
  refine ASem.frzT 7 (b:=(h.clk+1,7)) (z:=7) (row:=aC 7 (ixF (leastD S x).2)) (by simp only[go_sem,↓reduceIte]) (by simp only[go_sem,↓reduceIte,reduceEqDiff]) ?_
  have hbe:¬ bb=(h.clk+1,7):=by rcases hnb h.clk with e|e;exact e;omega
  have hfe:¬ bf=(h.clk+1,7):=fun e=>by rw [e] at hf1;have:h.clk+1 < h.clk:=hf1;omega
  have hcl:=cmpL_lex (leastD S x).2 st.1
  by_cases hcut:cutD S x st=true
  ·have e:tryD S (f+1) x st=st:=by simp only[tryD];rw [if_pos hcut]
   rw [e]
   simp only[cutD,Bool.and_eq_true,Bool.or_eq_true,decide_eq_true_eq,Bool.not_eq_true',← hcl] at hcut
   refine asem_seq (fi:=⟨51,[8],[5],none,[(2,[0,1,3,7,7,31,63,127,127,511,1023,2047,2047,8191,16383,32767,65535,131071],[(0,false),(1,false),(2,false),(3,false),(4,false),(5,false),(6,false),(7,false),(8,false),(9,false),(10,false),(11,false),(12,false),(13,false),(14,false),(15,false),(16,false),(17,false)]),(3,[0,1,0,4,12,28,60,127],[(0,false),(1,true),(2,false),(3,true),(4,false),(5,false),(6,false),(7,false)])]⟩) tab mixed (by decide) ?_
   repeat' (first|refine st_seq_draw rfl (by first|(simp only[go_sem,hstf,dC_take];rfl)|rfl) (by first|(simp only[go_sem,hstf,dC_take];rfl)|rfl) ?_|refine st_det rfl (by simp (disch:=omega) only[go_sem,wr_i64,hstf,dC_take];rfl) ?_|refine st_dop rfl ?_|(refine st_callf (args:=[.lstx 1 ((aC 7 (ixF (leastD S x).2)).map fun x=>[x]),.slc bb 1 0 7]) rfl rfl ((c103h (leastD S x).2 st.1 (by omega) (by omega) bb _ (by first|(simp only[go_sem,hbe,↓reduceIte];exact hstb)|(simp (disch:=omega) only[go_sem];exact hstb))).argLe hargs) ?_;rintro v h' ⟨⟨n2,hn2,rfl⟩,rfl⟩)|refine st_dgT rfl rfl rfl rfl ?_|refine st_dgF rfl rfl rfl ?_|(refine st_dgS rfl rfl ?_ ?_ <;> intro hg <;> (try simp only[dcT,dcF,bnT,bnF] at hg))|refine st_condT rfl ?_|refine st_condF rfl ?_|(refine st_condS rfl ?_ ?_ <;> intro hg <;> (try simp only[dcT,dcF,bnT,bnF] at hg))|refine st_dnil ?_|refine st_tN ?_|refine st_skip ?_|refine st_ret ?_|refine st_tR ?_)
   all_goals try (exfalso;omega)
   ·simp (disch:=omega) only[AEnd,Tryz.results101,aresK,fin,go_sem,implies_true,true_and,and_true,List.reverse_cons,List.reverse_nil]
    exact ⟨⟨by simp only[go_sem,hfe,↓reduceIte];exact hstf,by simp only[go_sem,hbe,↓reduceIte];exact hstb,hstl,hstn⟩,⟨fun b' hb' _ _=>by simp only[go_sem];rw [if_neg (fun e2=>by rw [e2] at hb';have:h.clk+1 < h.clk:=hb';omega)],rfl,by simp only[go_sem];omega,rfl⟩⟩
   ·simp (disch:=omega) only[AEnd,Tryz.results101,aresK,fin,go_sem,implies_true,true_and,and_true,List.reverse_cons,List.reverse_nil]
    exact ⟨⟨by simp only[go_sem,hfe,↓reduceIte];exact hstf,by simp only[go_sem,hbe,↓reduceIte];exact hstb,hstl,hstn⟩,⟨fun b' hb' _ _=>by simp only[go_sem];rw [if_neg (fun e2=>by rw [e2] at hb';have:h.clk+1 < h.clk:=hb';omega)],rfl,by have hn3:n+1≤n2:=hn2;simp only[go_sem];omega,rfl⟩⟩
  have e:tryD S (f+1) x st=if done S x then (x.day,(leastD S x).1) else (nextD S x).foldl (fun st y=>tryD S f y st) st:=by simp only[tryD];rw [if_neg hcut]
  rw [e]
  have hcut2:¬ (0≤st.2∧(st.2 < (leastD S x).1 ∨ (leastD S x).1=st.2∧0≤cmpL (leastD S x).2 st.1)):=by
   rw [hcl]
   simpa [cutD] using hcut
  have hn0:(n:Nat)≤n+1:=Nat.le_succ _
  refine asem_cutL (α:=Unit) (fi:=⟨51,[8],[5],none,[(2,[0,1,3,7,7,31,63,127,127,511,1023,2047,2047,8191,16383,32767,65535,131071],[(0,false),(1,false),(2,false),(3,false),(4,false),(5,false),(6,false),(7,false),(8,false),(9,false),(10,false),(11,false),(12,false),(13,false),(14,false),(15,false),(16,false),(17,false)]),(3,[0,1,0,4,12,28,60,127],[(0,false),(1,true),(2,false),(3,true),(4,false),(5,false),(6,false),(7,false)])]⟩) tab mixed (fun _=>[(5,.iptr (dC (ixF x.day) (x.pl:Nat) (ixF x.hands) (ixF x.fls) x.last) 0),(1,.iptr [.lst 3 (S.ws.map Wk.row),.lst 3 (S.js.map Jb.row)] 0),(2,.ptr bf 0 0),(3,.aptr bb 7 0),(4,knot (.func 101) (ecap S bf bb) (d+1)),(6,.int .i64 (leastD S x).1)]) (fun _=>[]) (fun _=>(h.tick n).put (h.clk+1,7) none) (fun _=>True) (by decide) ?_ ?_
  ·repeat' (first|refine st_seq_draw rfl (by first|(simp only[go_sem,hstf,dC_take];rfl)|rfl) (by first|(simp only[go_sem,hstf,dC_take];rfl)|rfl) ?_|refine st_det rfl (by simp (disch:=omega) only[go_sem,wr_i64,hstf,dC_take];rfl) ?_|refine st_dop rfl ?_|(refine st_callf (args:=[.lstx 1 ((aC 7 (ixF (leastD S x).2)).map fun x=>[x]),.slc bb 1 0 7]) rfl rfl ((c103h (leastD S x).2 st.1 (by omega) (by omega) bb _ (by first|(simp only[go_sem,hbe,↓reduceIte];exact hstb)|(simp (disch:=omega) only[go_sem];exact hstb))).argLe hargs) ?_;rintro v h' ⟨⟨n2,hn2,rfl⟩,rfl⟩)|refine st_dgT rfl rfl rfl rfl ?_|refine st_dgF rfl rfl rfl ?_|(refine st_dgS rfl rfl ?_ ?_ <;> intro hg <;> (try simp only[dcT,dcF,bnT,bnF] at hg))|refine st_condT rfl ?_|refine st_condF rfl ?_|(refine st_condS rfl ?_ ?_ <;> intro hg <;> (try simp only[dcT,dcF,bnT,bnF] at hg))|refine st_dnil ?_|refine st_tN ?_|refine st_skip ?_|refine st_ret ?_|refine st_tR ?_)
   all_goals try (exfalso;omega)
   ·refine ⟨(),trivial,(by repeat' (first|exact trivial|refine And.intro ?_ ?_|rfl|(simp (disch:=omega) only[go_sem,if_yes,if_no,if_no];rfl)|(simp (disch:=omega) only[go_sem,if_yes,if_no,if_no]))),(by repeat' (first|exact trivial|refine And.intro ?_ ?_|rfl|(simp (disch:=omega) only[go_sem,if_yes,if_no,if_no];rfl)|(simp (disch:=omega) only[go_sem,if_yes,if_no,if_no]))),rfl,(by have hq:n+1≤n2:=hn2;have hq2:n≤n2:=(by omega);exact HOld.of' hq2)⟩
   ·refine ⟨(),trivial,(by repeat' (first|exact trivial|refine And.intro ?_ ?_|rfl|(simp (disch:=omega) only[go_sem,if_yes,if_no,if_no];rfl)|(simp (disch:=omega) only[go_sem,if_yes,if_no,if_no]))),(by repeat' (first|exact trivial|refine And.intro ?_ ?_|rfl|(simp (disch:=omega) only[go_sem,if_yes,if_no,if_no];rfl)|(simp (disch:=omega) only[go_sem,if_yes,if_no,if_no]))),rfl,HOld.of' hn0⟩
   ·refine ⟨(),trivial,(by repeat' (first|exact trivial|refine And.intro ?_ ?_|rfl|(simp (disch:=omega) only[go_sem,if_yes,if_no,if_no];rfl)|(simp (disch:=omega) only[go_sem,if_yes,if_no,if_no]))),(by repeat' (first|exact trivial|refine And.intro ?_ ?_|rfl|(simp (disch:=omega) only[go_sem,if_yes,if_no,if_no];rfl)|(simp (disch:=omega) only[go_sem,if_yes,if_no,if_no]))),rfl,HOld.of' hn0⟩
  rintro _ n3 _ hn3
  have hn30:n≤n3:=hn3
  simp only[go_sem]
  refine asem_awp (fi:=⟨51,[8],[5],none,[(2,[0,1,3,7,7,31,63,127,127,511,1023,2047,2047,8191,16383,32767,65535,131071],[(0,false),(1,false),(2,false),(3,false),(4,false),(5,false),(6,false),(7,false),(8,false),(9,false),(10,false),(11,false),(12,false),(13,false),(14,false),(15,false),(16,false),(17,false)]),(3,[0,1,0,4,12,28,60,127],[(0,false),(1,true),(2,false),(3,true),(4,false),(5,false),(6,false),(7,false)])]⟩) tab mixed (by decide) ?_
  have hdn:=doneI (S:=S) (x:=x) h7
  repeat' (first|refine st_seq_reg rfl (by first|(simp only[go_sem,hstf,dC_take,dC_arr0,aC_take,hdn,hstb,Lm,hstl,hbe,List.append_nil];rfl)|rfl) (by first|(simp only[go_sem,hstf,dC_take,dC_arr0,aC_take,hdn,hstb,Lm,hstl,hbe,List.append_nil];rfl)|rfl) ?_|refine st_seq_draw rfl (by first|(simp only[go_sem,hstf,dC_take,dC_arr0,aC_take,hdn,hstb,Lm,hstl,hbe,List.append_nil];rfl)|rfl) (by first|(simp only[go_sem,hstf,dC_take,dC_arr0,aC_take,hdn,hstb,Lm,hstl,hbe,List.append_nil];rfl)|rfl) ?_|refine st_op ?_|refine st_det rfl (by simp (disch:=omega) only[go_sem,wr_i64,hstf,dC_take,dC_arr0,aC_take,hdn,hstb,Lm,hstl,hbe,List.append_nil];rfl) ?_|refine st_dop rfl ?_|refine st_store (by simp (disch:=omega) only[go_sem,wr_i64,hstf,dC_take,dC_arr0,aC_take,hdn,hstb,Lm,hstl,hbe,List.append_nil];rfl) ?_|(refine st_pureE (by first|(simp (disch:=omega) only[go_sem,hstf,dC_take,dC_arr0,aC_take,hdn,hstb,Lm,hstl,hbe,List.append_nil];rfl)|rfl) rfl (c104 S x) (by first|(simp only[go_sem,hstf,dC_take,dC_arr0,aC_take,hdn,hstb,Lm,hstl,hbe,List.append_nil];rfl)|rfl) (by intro n;first|(simp (disch:=omega) only[go_sem];rfl)|rfl) ?_;intro n hn)|(refine st_condS rfl ?_ ?_ <;> intro hg <;> (try simp only[dcT,dcF,bnT,bnF] at hg))|refine st_nil ?_|refine st_dnil ?_|refine st_tN ?_|refine st_seq ?_|refine st_block ?_|refine st_skip ?_|refine st_ret ?_|refine st_tR ?_)
  ·rw [if_pos hg]
   have hrw:=aC_rows x.day 7 z.day
   simp (disch:=omega) only[AEnd,Tryz.results101,aresK,fin,go_sem,implies_true,true_and,and_true,List.reverse_cons,List.reverse_nil]
   have hfb':¬ bb=bf:=fun e2=>hfb e2.symm
   exact ⟨⟨by simp only[go_sem,↓reduceIte],by simp only[go_sem,hfb',↓reduceIte];rw [hrw],z.day,by omega,by omega⟩,⟨fun b' hb' h1 h2=>by simp only[go_sem];rw [if_neg h1,if_neg h2,if_neg (fun e2=>by rw [e2] at hb';have:h.clk+1 < h.clk:=hb';omega)],rfl,by simp only[go_sem];omega,rfl⟩⟩
  ·rw [if_neg (by simpa using hg)]
   refine st_rangeFunc rfl (by simp only[go_sem];rfl) (fun l D R hR hlp=>?_)
   simp only[go_sem] at hlp
   let I:List Dr→AH→Prop:=fun p g=>g.lp l=some R∧(∀ b',b'.1 < h.clk→b' ≠ bf→b' ≠ bb→g.at_ b'=h.at_ b')∧(∀ l',l' ≠ l→g.lp l'=h.lp l')∧h.clk≤g.clk∧g.gl=gB∧StH bf bb (p.foldl (fun st y=>tryD S f y st) st) g
   refine (c134 S x l hS z b I ?_ ?_ ?_ _ ?_).mono ?_
   ·exact fun p g m ⟨i1,i2,i3,i4,i5,i6⟩ hm=>⟨i1,i2,i3,Nat.le_trans i4 hm,i5,i6.tick m⟩
   ·exact fun p g ⟨_,_,_,_,i5,_⟩=>i5
   ·rintro p y g hpre ⟨i1,i2,i3,i4,i5,i6⟩
    have hmem:y ∈ nextD S x:=hpre.subset (by simp)
    have hRy:=hx.next hS hmem
    have hoy:=open_next hx.1.choose_spec hmem
    refine AYields.canon tab mixed [8] [] [] hR i1 rfl (by intro p hp;simp at hp;subst hp;decide) [(47,y.av),(4,knot (.func 101) (ecap S bf bb) (d+1))] ⟨rfl,rfl,trivial⟩ rfl rfl ?_
    simp only[go_sem]
    unfold Dr.av
    repeat' (first|refine st_reg rfl (by first|(simp only[go_sem,List.append_nil];rfl)|rfl) (by first|(simp only[go_sem,List.append_nil];rfl)|rfl) ?_|refine st_op ?_|refine st_loc rfl (by simp (disch:=omega) only[go_sem,wr_i64,List.append_nil];rfl) ?_|refine st_store (by simp (disch:=omega) only[go_sem,wr_i64,List.append_nil];rfl) ?_|refine st_nil ?_|refine st_tN ?_)
    refine ⟨i1,?_⟩
    dsimp only
    repeat' (first|refine st_reg rfl (by first|(simp only[go_sem,dC_take];rfl)|rfl) (by first|(simp only[go_sem,dC_take];rfl)|rfl) ?_|refine st_op ?_|refine st_det rfl (by simp (disch:=omega) only[go_sem,wr_i64,dC_take];rfl) ?_|(refine st_call (args:=[.agg (dC (ixF y.day) (y.pl:Nat) (ixF y.hands) (ixF y.fls) y.last)]) rfl (by first|(simp (disch:=omega) only[go_sem];rfl)|rfl) rfl (ih d y (p.foldl (fun st y=>tryD S f y st) st) _ (by omega) hRy (by omega) ⟨i6.f,i6.b,i6.l,i6.n⟩ i5 (by show bf.1 < g.clk+1+1;omega) (by show bb.1 < g.clk+1+1;omega)) ?_;rintro v h' ⟨s1,k1⟩)|refine st_nil ?_|refine st_block ?_|refine st_bN ?_)
    have hkc:g.clk+1+1≤h'.clk:=k1.clk
    have hkl:h'.lp=(g.lpSet l (some R.busy)).lp:=k1.lp
    refine ⟨by show h'.lp l=_;rw [hkl];exact lpSet_same _ _ _,rfl,lpSet_same _ _ _,fun b' hb' h1 h2=>?_,fun l' hl'=>?_,?_,?_,?_⟩
    ·show h'.at_ b'=h.at_ b'
     rw [k1.at_ b' (by show b'.1 < g.clk+1+1;omega) h1 h2]
     exact i2 b' hb' h1 h2
    ·rw [lpSet_ne _ _ hl']
     show h'.lp l'=h.lp l'
     rw [hkl,lpSet_ne _ _ hl']
     exact i3 l' hl'
    ·show h.clk≤h'.clk
     omega
    ·show h'.gl=gB
     rw [k1.gl];exact i5
    ·rw [List.foldl_append]
     exact ⟨s1.f,s1.b,s1.l,s1.n⟩
   ·refine ⟨lpSet_same _ _ _,fun b' hb' h1 h2=>?_,fun l' hl'=>?_,?_,hgl,?_⟩
    ·simp only[go_sem];rw [if_neg (fun e2=>by rw [e2] at hb';have:h.clk+1 < h.clk:=hb';omega)]
    ·rw [lpSet_ne _ _ hl'];rfl
    ·show h.clk≤n
     omega
    ·exact ⟨by simp only[go_sem,hfe,↓reduceIte];exact hstf,by simp only[go_sem,hbe,↓reduceIte];exact hstb,hstl,hstn⟩
   ·rintro v h' ⟨i1,i2,i3,i4,i5,i6⟩
    have hlp2:(h'.lpSet l none).lp=h.lp:=by
     funext l'
     by_cases e2:l'=l
     ·rw [e2,lpSet_same,hlp]
     ·rw [lpSet_ne _ _ e2];exact i3 l' e2
    refine .inl ⟨i1,st_bN ?_⟩
    simp (disch:=omega) only[AEnd,Tryz.results101,aresK,fin,go_sem,implies_true,true_and,and_true,List.reverse_cons,List.reverse_nil]
    exact ⟨⟨i6.f,i6.b,i6.l,i6.n⟩,⟨i2,hlp2,i4,by show h'.gl=h.gl;rw [i5,hgl]⟩⟩
end Go.Proofs.YtaijkalhkgjakaaGreatDoor

namespace Go.Proofs.YtaijkalhkgjakaaGreatDoor
open Go.Av
attribute [local irreducible] thenA blockA awp awpOps awpD awp1
attribute [local go_sem_proc] Nat.reduceAdd Nat.reduceMul reduceEqDiff Nat.reduceBEq Nat.reduceLeDiff
attribute [local go_sem_proc ↓] reduceIte
attribute [local go_sem] if_yes if_no
set_option maxHeartbeats 8000000
set_option maxRecDepth 20000
def earD (S:Sp):List Int × Int:=tryD S (S.js.length+1) dr0 (List.replicate 7 0,-1)
theorem c71 (S:Sp) (hS:S.Ok):PureG gB Tryz.prog 71 [S.av] (fun v=>v=.tup [.agg (aC 7 (ixF (earD S).1)),.int .i64 (earD S).2]):=by
 intro h hgl
 refine ACalls.forget ?_
 refine ACalls.ofS tab Tryz.call71 Tryz.func71 rfl (fi:=⟨13,[],[1,1000006],none,[(6,[0,0,1,7],[(0,false),(1,true),(2,true),(3,false)])]⟩) rfl rfl (Nat.le_of_ble_eq_true rfl) ?_
 unfold startA
 try simp only[go_sem]
 refine asem_seq (fi:=⟨13,[],[1,1000006],none,[(6,[0,0,1,7],[(0,false),(1,true),(2,true),(3,false)])]⟩) tab mixed (by decide) ?_
 repeat' (first|refine st_reg rfl (by first|(simp only[go_sem];rfl)|rfl) (by first|(simp only[go_sem];rfl)|rfl) ?_|refine st_op ?_|refine st_det rfl (by simp (disch:=omega) only[go_sem,wr_i64];rfl) ?_|refine st_heap rfl (by simp (disch:=omega) only[go_sem,wr_i64];rfl) ?_|refine st_nil ?_|refine st_tN ?_)
 refine asem_seq (fi:=⟨13,[],[1,1000006],none,[(6,[0,0,1,7],[(0,false),(1,true),(2,true),(3,false)])]⟩) tab mixed (by decide) ?_
 repeat' (first|refine st_reg rfl (by first|(simp only[go_sem];rfl)|rfl) (by first|(simp only[go_sem];rfl)|rfl) ?_|refine st_op ?_|refine st_heap rfl (by simp (disch:=omega) only[go_sem,wr_i64];rfl) ?_|refine st_nil ?_|refine st_tN ?_)
 refine ASem.flat 4 (b:=(h.clk+1,4)) (z:=7) (row:=[.int .i64 0,.int .i64 0,.int .i64 0,.int .i64 0,.int .i64 0,.int .i64 0,.int .i64 0]) (by simp only[go_sem,↓reduceIte]) (by simp only[go_sem,↓reduceIte,reduceEqDiff]) rfl ?_
 refine asem_seq (fi:=⟨13,[],[1,1000006],none,[(6,[0,0,1,7],[(0,false),(1,true),(2,true),(3,false)])]⟩) tab mixed (by decide) ?_
 repeat' (first|refine st_reg rfl (by first|(simp only[go_sem];rfl)|rfl) (by first|(simp only[go_sem];rfl)|rfl) ?_|refine st_op ?_|refine st_heap rfl (by simp (disch:=omega) only[go_sem,wr_i64];rfl) ?_|refine st_store (by simp (disch:=omega) only[go_sem,wr_i64];rfl) ?_|refine st_nil ?_|refine st_tN ?_)
 refine asem_seq (fi:=⟨13,[],[1,1000006],none,[(6,[0,0,1,7],[(0,false),(1,true),(2,true),(3,false)])]⟩) tab mixed (by decide) ?_
 repeat' (first|refine st_reg rfl (by first|(simp only[go_sem];rfl)|rfl) (by first|(simp only[go_sem];rfl)|rfl) ?_|refine st_op ?_|refine st_heap rfl (by simp (disch:=omega) only[go_sem,wr_i64];rfl) ?_|refine st_nil ?_|refine st_tN ?_)
 refine asem_seq (fi:=⟨13,[],[1,1000006],none,[(6,[0,0,1,7],[(0,false),(1,true),(2,true),(3,false)])]⟩) tab mixed (by decide) ?_
 repeat' (first|refine st_reg rfl (by first|(simp only[go_sem];rfl)|rfl) (by first|(simp only[go_sem];rfl)|rfl) ?_|refine st_op ?_|refine st_det rfl (by simp (disch:=omega) only[go_sem,wr_i64];rfl) ?_|refine st_store (by simp (disch:=omega) only[go_sem,wr_i64];rfl) ?_|refine st_nil ?_|refine st_tN ?_)
 refine ASem.knot (b:=(h.clk+1+1+1+1,6)) (g:=.func 101) (cap:=ecap S (h.clk+1+1+1,5) (h.clk+1+1,0)) 6 (S.js.length+1+1) (by simp only[go_sem,↓reduceIte,reduceEqDiff]) (by simp only[go_sem,↓reduceIte];rfl) ?_
 simp only[knot_e]
 refine asem_awp (fi:=⟨13,[],[1,1000006],none,[(6,[0,0,1,7],[(0,false),(1,true),(2,true),(3,false)])]⟩) tab mixed (by decide) ?_
 repeat' (first|refine st_seq_reg rfl (by first|(simp only[go_sem];rfl)|rfl) (by first|(simp only[go_sem];rfl)|rfl) ?_|refine st_op ?_|refine st_det rfl (by simp (disch:=omega) only[go_sem,wr_i64];rfl) ?_|(refine st_call (args:=[dr0.av]) rfl (by first|(simp (disch:=omega) only[go_sem];rfl)|rfl) rfl (c101 S hS (h.clk+1+1+1,5) (h.clk+1+1,0) (by simp) (S.js.length+1) (S.js.length+1) dr0 (List.replicate 7 0,-1) _ (Nat.le_refl _) (Rt.start S) (by rw [open_dr0];omega) ⟨by simp (disch:=omega) only[go_sem,↓reduceIte],by simp (disch:=omega) only[go_sem,↓reduceIte];rfl,rfl,by decide⟩ hgl (by show h.clk+1+1+1 < _;simp only[go_sem];omega) (by show h.clk+1+1 < _;simp only[go_sem];omega)) ?_;rintro v h' ⟨s1,k1⟩)|refine st_nil ?_|refine st_seq ?_)
 repeat' (first|refine st_seq_reg rfl (by first|(simp only[go_sem];rfl)|rfl) (by first|(simp only[go_sem];rfl)|rfl) ?_)
 have h2:h'.at_ (h.clk,2)=some ⟨7,[[.int .i64 0,.int .i64 0,.int .i64 0,.int .i64 0,.int .i64 0,.int .i64 0,.int .i64 0]]⟩:=by
  rw [k1.at_ (h.clk,2) (by show h.clk < h.clk+1+1+1+1+1+1+1;omega) (by simp) (by simp)]
  simp (disch:=omega) only[go_sem,↓reduceIte]
 have s1f:=s1.f
 have s1b:=s1.b
 have s1l:=s1.l
 have hclk:=k1.clk
 first|refine st_free ?_|refine st_seq_free ?_
 refine ASem.frzT 5 (b:=(h.clk+1+1+1,5)) (z:=1) (row:=[.int .i64 (earD S).2]) s1f (by simp only[go_sem,↓reduceIte,reduceEqDiff]) ?_
 refine st_run tab mixed (f2:=⟨13,[],[1],none,[(6,[0,0,1,7],[(0,false),(1,true),(2,true),(3,false)])]⟩) rfl rfl (by decide) ?_
 repeat' (first|refine st_draw rfl (by first|(simp only[go_sem,s1b,h2,flat_iv,s1l,Lm,aC_take,List.append_nil];rfl)|rfl) (by first|(simp only[go_sem,s1b,h2,flat_iv,s1l,Lm,aC_take,List.append_nil];rfl)|rfl) ?_|refine st_det rfl (by simp (disch:=omega) only[go_sem,wr_i64,s1b,h2,flat_iv,s1l,Lm,aC_take,List.append_nil];rfl) ?_|refine st_dop rfl ?_|refine st_store (by simp (disch:=omega) only[go_sem,wr_i64,s1b,h2,flat_iv,s1l,Lm,aC_take,List.append_nil];rfl) ?_|refine st_dnil ?_|refine st_tN ?_|refine st_ret ?_)
 simp (disch:=omega) only[AEnd,Tryz.results71,aresK,fin,go_sem,implies_true,true_and,and_true,List.reverse_cons,List.reverse_nil]
 have hc2:h.clk+1+1+1+1+1+1+1≤h'.clk:=by simpa only[go_sem] using hclk
 refine ⟨fun b hb=>?_,?_,rfl⟩
 ·have:¬ b=(h.clk,2)∧¬ b=(h.clk+1,4)∧¬ b=(h.clk+1+1,0)∧¬ b=(h.clk+1+1+1,5)∧¬ b=(h.clk+1+1+1+1,6):=by
   refine ⟨?_,?_,?_,?_,?_⟩ <;> · rintro rfl;simp at hb;try omega
  simp only[go_sem,this,↓reduceIte]
  rw [k1.at_ b (by show b.1 < h.clk+1+1+1+1+1+1+1;omega) this.2.2.2.1 this.2.2.1]
  simp only[go_sem,this,↓reduceIte]
 ·exact k1.lp
end Go.Proofs.YtaijkalhkgjakaaGreatDoor

namespace Go.Proofs.YtaijkalhkgjakaaGreatDoor
open Go.Av
attribute [local irreducible] thenA blockA awp awpOps awpD awp1
attribute [local go_sem_proc] Nat.reduceAdd Nat.reduceMul reduceEqDiff Nat.reduceBEq Nat.reduceLeDiff
attribute [local go_sem_proc ↓] reduceIte
attribute [local go_sem] if_yes if_no
set_option maxHeartbeats 8000000
set_option maxRecDepth 20000
theorem sf_get {p:List Sf} {i:Nat} (hi:i < p.length):(p.map Sf.row)[i]?=some (pAt p i).row:=by
 rw [List.getElem?_map,List.getElem?_eq_getElem hi]
 simp [pAt,List.getD_eq_getElem?_getD,List.getElem?_eq_getElem hi]
theorem c70 (S:Sp) (p:List Sf) (i:Nat) (hi:i < p.length) (hj:i < S.js.length) (h7:S.js.length≤7) (hd:-100000≤(pAt p i).d∧(pAt p i).d≤100000) (hjd:1≤(jOf S.js i).d∧(jOf S.js i).d≤30) :
  Pure Tryz.prog 70 [S.av,.lst 2 (p.map Sf.row),.int .i64 (i:Nat)] (fun v=>v=.int .i64 ((pAt p i).d+(jOf S.js i).d)):=by
 intro h
 refine ACalls.forget ?_
 refine ACalls.of tab mixed Tryz.call70 Tryz.func70 rfl (fi:=⟨19,[],[3],none,[(1,[0,0,3,7,15,0,32,0,224,480,992,2047,4095],[(0,false),(1,false),(2,false),(3,false),(4,true),(5,false),(6,true),(7,false),(8,false),(9,false),(10,true),(11,false),(12,false)])]⟩) rfl rfl (Nat.le_of_ble_eq_true rfl) (by decide) ?_
 unfold startA
 try simp only[go_sem]
 repeat' (first|refine st_seq_reg rfl (by first|(simp only[go_sem,Lm];rfl)|rfl) (by first|(simp only[go_sem,Lm];rfl)|rfl) ?_|refine st_seq_draw rfl (by first|(simp only[go_sem,Lm];rfl)|rfl) (by first|(simp only[go_sem,Lm];rfl)|rfl) ?_|refine st_op ?_|refine st_det rfl (by simp (disch:=omega) only[go_sem,wr_i64,Lm];rfl) ?_|refine st_dop rfl ?_|refine st_nil ?_|refine st_dnil ?_|refine st_ret ?_)
 simp (disch:=omega) only[AEnd,Tryz.results70,aresK,fin,go_sem,implies_true,true_and,and_true,List.reverse_cons,List.reverse_nil]
theorem sf_es {p:List Sf} {es:List (List AV)} {i:Nat} (hi:i < p.length) (hl:p.length≤es.length) (ht:es.take p.length=p.map Sf.row):es.getD i []=[.int .i64 (pAt p i).w,.int .i64 (pAt p i).d]:=by
 have h:=sf_get hi
 rw [← ht,List.getElem?_take_of_lt hi] at h
 rw [List.getD_eq_getElem?_getD,h];rfl
theorem c70h (S:Sp) (p:List Sf) (i:Nat) (hi:i < p.length) (hj:i < S.js.length) (h7:S.js.length≤7) (hd:-100000≤(pAt p i).d∧(pAt p i).d≤100000) (hjd:1≤(jOf S.js i).d∧(jOf S.js i).d≤30)
  (b:Bid) (es:List (List AV)) (h:AH) (hat:h.at_ b=some ⟨2,es⟩) (hl:p.length≤es.length) (ht:es.take p.length=p.map Sf.row) :
  ACalls Tryz.prog 70 [S.av,.slc b 2 0 p.length,.int .i64 (i:Nat)] h (fun v h'=>Later h h'∧v=.int .i64 ((pAt p i).d+(jOf S.js i).d)):=by
 refine ACalls.forget (ACalls.of tab mixed Tryz.call70 Tryz.func70 rfl (fi:=⟨19,[],[3],none,[(1,[0,0,3,7,15,0,32,0,224,480,992,2047,4095],[(0,false),(1,false),(2,false),(3,false),(4,false),(5,false),(6,true),(7,false),(8,false),(9,false),(10,true),(11,false),(12,false)])]⟩) rfl rfl (Nat.le_of_ble_eq_true rfl) (by decide) ?_)
 unfold startA
 try simp only[go_sem]
 have hes:=sf_es hi hl ht
 repeat' (first|refine st_seq_reg rfl (by first|(simp only[go_sem,hat,hes,Nat.zero_add,Lm];rfl)|rfl) (by first|(simp only[go_sem,hat,hes,Nat.zero_add,Lm];rfl)|rfl) ?_|refine st_seq_draw rfl (by first|(simp only[go_sem,hat,hes,Nat.zero_add,Lm];rfl)|rfl) (by first|(simp only[go_sem,hat,hes,Nat.zero_add,Lm];rfl)|rfl) ?_|refine st_op ?_|refine st_det rfl (by simp (disch:=omega) only[go_sem,wr_i64,hat,hes,Nat.zero_add,Lm];rfl) ?_|refine st_dop rfl ?_|refine st_nil ?_|refine st_dnil ?_|refine st_ret ?_)
 simp (disch:=omega) only[AEnd,Tryz.results70,aresK,fin,go_sem,implies_true,true_and,and_true,List.reverse_cons,List.reverse_nil]
end Go.Proofs.YtaijkalhkgjakaaGreatDoor
