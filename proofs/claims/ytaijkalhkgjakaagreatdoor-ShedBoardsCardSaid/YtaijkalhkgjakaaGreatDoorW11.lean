/- Contracts of functions that the claim reaches: what each call gives, told in our own logic. Conditions: those of each theorem. -/
import Derived.Test.YtaijkalhkgjakaaGreatDoorW12
open List (length_map)
set_option linter.all false
set_option linter.unusedSimpArgs false
set_option linter.unusedVariables false
namespace Go.Proofs.YtaijkalhkgjakaaGreatDoor
open Go.Av Go.Txt Go.Lib
attribute [local irreducible] thenA blockA awp awpOps awpD awp1
attribute [local go_sem_proc] Nat.reduceAdd Nat.reduceMul Nat.reduceEqDiff Nat.reduceBEq Nat.reduceLeDiff
attribute [local go_sem_proc ↓] reduceIte
attribute [local go_sem] if_yes if_no
set_option maxHeartbeats 16000000
set_option maxRecDepth 20000
theorem c41 (text:List UInt8) (hmax:(text.length:Int)≤9223372036854775807):PureG gT Tryz.prog 41 [.str text] (fun v=>v=rdV text):=by
 refine PureG.give Tryz.call41 fun h hgl hold=>?_
 by_cases h1:1000 < text.length
 ·have e:rdV text=badV 0 6:=by unfold rdV;rw [if_pos h1]
  refine ACalls.of tab mixed Tryz.call41 Tryz.func41 rfl (fi:=⟨161,[2],[96,119],none,[(16,[0,1,0,4,12,28,0,64,192,448,0,1024,3072,7168,16380,32764,65535,131071,262143],[(0,false),(1,true),(2,false),(3,false),(4,true),(5,false),(6,false),(7,false),(8,true),(9,false),(10,false),(11,false),(12,true),(13,false),(14,false),(15,false),(16,false),(17,false),(18,false)]),(18,[0,1,0,4,12,0,32,96,0,256,768,2044,4092,8191,16383,32767],[(0,false),(1,true),(2,false),(3,false),(4,true),(5,false),(6,false),(7,true),(8,false),(9,false),(10,true),(11,false),(12,false),(13,false),(14,false),(15,false)])]⟩) rfl rfl (Nat.le_of_ble_eq_true rfl) (by decide) ?_
  unfold startA
  try simp only[go_sem]
  repeat' (first|refine st_seq_reg rfl (by first|(simp only[go_sem];rfl)|rfl) (by first|(simp only[go_sem];rfl)|rfl) ?_|refine st_op ?_|refine st_det rfl (by simp (disch:=omega) only[go_sem,wr_i64];rfl) ?_|refine st_loc rfl (by simp (disch:=omega) only[go_sem,wr_i64];rfl) ?_|refine st_store (by simp (disch:=omega) only[go_sem,wr_i64];rfl) ?_|(refine st_condS rfl ?_ ?_ <;> intro hg <;> (try simp only[dcT,dcF,bnT,bnF] at hg))|refine st_nil ?_|refine st_tN ?_|refine st_seq ?_|refine st_skip ?_|refine st_ret ?_|refine st_tR ?_)
  all_goals try (exfalso;omega)
  simp (disch:=omega) only[AEnd,Tryz.results41,aresK,fin,go_sem,implies_true,true_and,and_true,List.reverse_cons,List.reverse_nil]
  rw [e]
  exact .inl ⟨_,bad_le,rfl⟩
 have k86:=c86 text 10 (by omega)
 obtain ⟨rows,hr⟩:∃ rows,rows=splitL 10 text:=⟨_,rfl⟩
 rw [← hr] at k86
 have hrl:rows.length≤1001:=by rw [hr];have:=splitL_len 10 text;omega
 have hr1:1≤rows.length:=by rw [hr];exact List.length_pos_iff.2 (splitL_ne _ _)
 have hsub:∀ x ∈ rows,x.length≤1000:=fun x hx=>Nat.le_trans (splitL_sub (by rw [← hr];exact hx)) (by omega)
 refine ACalls.ofS tab Tryz.call41 Tryz.func41 rfl (fi:=⟨161,[2],[96,119],none,[(16,[0,1,0,4,12,28,0,64,192,448,0,1024,3072,7168,16380,32764,65535,131071,262143],[(0,false),(1,true),(2,false),(3,false),(4,true),(5,false),(6,false),(7,false),(8,true),(9,false),(10,false),(11,false),(12,true),(13,false),(14,false),(15,false),(16,false),(17,false),(18,false)]),(18,[0,1,0,4,12,0,32,96,0,256,768,2044,4092,8191,16383,32767],[(0,false),(1,true),(2,false),(3,false),(4,true),(5,false),(6,false),(7,true),(8,false),(9,false),(10,true),(11,false),(12,false),(13,false),(14,false),(15,false)])]⟩) rfl rfl (Nat.le_of_ble_eq_true rfl) ?_
 unfold startA
 try simp only[go_sem]
 refine asem_seq (fi:=⟨161,[2],[96,119],none,[(16,[0,1,0,4,12,28,0,64,192,448,0,1024,3072,7168,16380,32764,65535,131071,262143],[(0,false),(1,true),(2,false),(3,false),(4,true),(5,false),(6,false),(7,false),(8,true),(9,false),(10,false),(11,false),(12,true),(13,false),(14,false),(15,false),(16,false),(17,false),(18,false)]),(18,[0,1,0,4,12,0,32,96,0,256,768,2044,4092,8191,16383,32767],[(0,false),(1,true),(2,false),(3,false),(4,true),(5,false),(6,false),(7,true),(8,false),(9,false),(10,true),(11,false),(12,false),(13,false),(14,false),(15,false)])]⟩) tab mixed (by decide) ?_
 repeat' (first|refine st_reg rfl (by first|(simp only[go_sem];rfl)|rfl) (by first|(simp only[go_sem];rfl)|rfl) ?_|refine st_op ?_|refine st_det rfl (by simp (disch:=omega) only[go_sem,wr_i64];rfl) ?_|refine st_loc rfl (by simp (disch:=omega) only[go_sem,wr_i64];rfl) ?_|refine st_nil ?_|refine st_tN ?_)
 refine asem_seq (fi:=⟨161,[2],[96,119],none,[(16,[0,1,0,4,12,28,0,64,192,448,0,1024,3072,7168,16380,32764,65535,131071,262143],[(0,false),(1,true),(2,false),(3,false),(4,true),(5,false),(6,false),(7,false),(8,true),(9,false),(10,false),(11,false),(12,true),(13,false),(14,false),(15,false),(16,false),(17,false),(18,false)]),(18,[0,1,0,4,12,0,32,96,0,256,768,2044,4092,8191,16383,32767],[(0,false),(1,true),(2,false),(3,false),(4,true),(5,false),(6,false),(7,true),(8,false),(9,false),(10,true),(11,false),(12,false),(13,false),(14,false),(15,false)])]⟩) tab mixed (by decide) ?_
 repeat' (first|refine st_seq_reg rfl (by first|(simp only[go_sem];rfl)|rfl) (by first|(simp only[go_sem];rfl)|rfl) ?_|refine st_op ?_|refine st_det rfl (by simp (disch:=omega) only[go_sem,wr_i64];rfl) ?_|refine st_store (by simp (disch:=omega) only[go_sem,wr_i64];rfl) ?_|(refine st_condS rfl ?_ ?_ <;> intro hg <;> (try simp only[dcT,dcF,bnT,bnF] at hg))|refine st_nil ?_|refine st_tN ?_|refine st_skip ?_|refine st_ret ?_|refine st_tR ?_)
 all_goals try (exfalso;omega)
 refine asem_seq (fi:=⟨161,[2],[96,119],none,[(16,[0,1,0,4,12,28,0,64,192,448,0,1024,3072,7168,16380,32764,65535,131071,262143],[(0,false),(1,true),(2,false),(3,false),(4,true),(5,false),(6,false),(7,false),(8,true),(9,false),(10,false),(11,false),(12,true),(13,false),(14,false),(15,false),(16,false),(17,false),(18,false)]),(18,[0,1,0,4,12,0,32,96,0,256,768,2044,4092,8191,16383,32767],[(0,false),(1,true),(2,false),(3,false),(4,true),(5,false),(6,false),(7,true),(8,false),(9,false),(10,true),(11,false),(12,false),(13,false),(14,false),(15,false)])]⟩) tab mixed (by decide) ?_
 repeat' (first|refine st_reg rfl (by first|(simp only[go_sem];rfl)|rfl) (by first|(simp only[go_sem];rfl)|rfl) ?_|refine st_op ?_|refine st_det rfl (by simp (disch:=omega) only[go_sem,wr_i64];rfl) ?_|(refine st_pureGE (by first|(simp (disch:=omega) only[go_sem];rfl)|rfl) rfl (k86) (by exact hgl) (by first|(simp only[go_sem];rfl)|rfl) (by intro n;first|(simp (disch:=omega) only[go_sem];rfl)|rfl) ?_;intro n hn)|refine st_nil ?_|refine st_tN ?_)
 refine asem_seq (fi:=⟨161,[2],[96,119],none,[(16,[0,1,0,4,12,28,0,64,192,448,0,1024,3072,7168,16380,32764,65535,131071,262143],[(0,false),(1,true),(2,false),(3,false),(4,true),(5,false),(6,false),(7,false),(8,true),(9,false),(10,false),(11,false),(12,true),(13,false),(14,false),(15,false),(16,false),(17,false),(18,false)]),(18,[0,1,0,4,12,0,32,96,0,256,768,2044,4092,8191,16383,32767],[(0,false),(1,true),(2,false),(3,false),(4,true),(5,false),(6,false),(7,true),(8,false),(9,false),(10,true),(11,false),(12,false),(13,false),(14,false),(15,false)])]⟩) tab mixed (by decide) ?_
 repeat' (first|refine st_reg rfl (by first|(simp only[go_sem,strs_len];rfl)|rfl) (by first|(simp only[go_sem,strs_len];rfl)|rfl) ?_|refine st_op ?_|refine st_det rfl (by simp (disch:=omega) only[go_sem,wr_i64,strs_len];rfl) ?_|refine st_nil ?_|refine st_tN ?_)
 refine asem_seq (fi:=⟨161,[2],[96,119],none,[(16,[0,1,0,4,12,28,0,64,192,448,0,1024,3072,7168,16380,32764,65535,131071,262143],[(0,false),(1,true),(2,false),(3,false),(4,true),(5,false),(6,false),(7,false),(8,true),(9,false),(10,false),(11,false),(12,true),(13,false),(14,false),(15,false),(16,false),(17,false),(18,false)]),(18,[0,1,0,4,12,0,32,96,0,256,768,2044,4092,8191,16383,32767],[(0,false),(1,true),(2,false),(3,false),(4,true),(5,false),(6,false),(7,true),(8,false),(9,false),(10,true),(11,false),(12,false),(13,false),(14,false),(15,false)])]⟩) tab mixed (by decide) ?_
 repeat' (first|refine st_reg rfl (by first|(simp only[go_sem];rfl)|rfl) (by first|(simp only[go_sem];rfl)|rfl) ?_|refine st_op ?_|refine st_det rfl (by simp (disch:=omega) only[go_sem,wr_i64];rfl) ?_|refine st_nil ?_|refine st_tN ?_)
 refine asem_seq (fi:=⟨161,[2],[96,119],none,[(16,[0,1,0,4,12,28,0,64,192,448,0,1024,3072,7168,16380,32764,65535,131071,262143],[(0,false),(1,true),(2,false),(3,false),(4,true),(5,false),(6,false),(7,false),(8,true),(9,false),(10,false),(11,false),(12,true),(13,false),(14,false),(15,false),(16,false),(17,false),(18,false)]),(18,[0,1,0,4,12,0,32,96,0,256,768,2044,4092,8191,16383,32767],[(0,false),(1,true),(2,false),(3,false),(4,true),(5,false),(6,false),(7,true),(8,false),(9,false),(10,true),(11,false),(12,false),(13,false),(14,false),(15,false)])]⟩) tab mixed (by decide) ?_
 repeat' (first|refine st_seq_reg rfl (by first|(simp only[go_sem,strs_len];rfl)|rfl) (by first|(simp only[go_sem,strs_len];rfl)|rfl) ?_|refine st_op ?_|refine st_det rfl (by simp (disch:=omega) only[go_sem,wr_i64,strs_len];rfl) ?_|refine st_nil ?_|refine st_block ?_)
 all_goals try (exfalso;omega)
 obtain ⟨nb,hnb⟩:∃ nb,nb=rows.length - 1:=⟨_,rfl⟩
 obtain ⟨body,hbody⟩:∃ body,body=rows.take nb:=⟨_,rfl⟩
 have hbl:body.length=nb:=by rw [hbody,List.length_take];omega
 have eB:List.take (((rows.length:Nat):Int) - 1).toNat (List.drop (Int.toNat 0) (strs rows))=strs body:=by
  rw [hbody,show (((rows.length:Nat):Int) - 1).toNat=nb by omega]
  unfold strs
  show List.take nb (List.map _ rows)=_
  rw [← List.map_take]
 have eB2:List.take ((((rows.length:Nat):Int) - 1).toNat - Int.toNat 0) (List.drop (Int.toNat 0) (strs rows))=strs body:=eB
 have eN:((rows.length:Nat):Int) - 1=(nb:Nat):=by omega
 have hbs:∀ x ∈ body,x.length≤1000:=fun x hx=>hsub x (List.mem_of_mem_take (hbody ▸ hx))
 have hrd:rdV text=match runR 0 st0 body with
  | .inl k=>badV k 1
  | .inr st =>
   if st.e=false then badV rows.length 1
   else if rows.getD nb [] ≠ [] then badV rows.length 1
   else if st.m ≠ st.S.js.length then badV 1 1
   else if shopE st.S ≠ 0 then badV 0 (shopE st.S)
   else .tup [st.S.av,.int .i64 0,.int .i64 0]:=by
  unfold rdV;rw [if_neg h1,← hr,← hnb,← hbody];cases runR 0 st0 body <;> rfl
 simp only[eB2,strs_len,hbl]
 simp only[eN]
 refine st_loopH (α:=RdS) tab mixed [2] [_] (by repeat (first|exact trivial|refine ⟨rfl,?_⟩)) [] [] (by repeat (first|exact trivial|refine ⟨rfl,?_⟩)) (fun a=>[(28,.int .i64 (a.i:Nat)),(7,.bool a.st.e),(8,.int .i64 a.st.m)]) [(2,_),(3,_),(4,_),(5,_),(6,_),(26,_),(27,_)] (fun a=>[[a.v1,a.v2]]) [] (fun a=>a.g) (fun a=>a.i≤nb∧runR 0 st0 body=runR a.i a.st (body.drop a.i)∧SlA h.clk a.g a.v1 3 (a.st.S.ws.map Wk.row)∧SlA h.clk a.g a.v2 3 (a.st.S.js.map Jb.row)∧Dis 3 3 a.v1 a.v2∧a.st.S.ws.length≤a.i∧a.st.S.js.length≤a.i∧(∀ b':Bid,b'.1 < h.clk→a.g.at_ b'=h.at_ b')∧a.g.lp=h.lp∧a.g.gl=gT∧h.clk+1≤a.g.clk) (fun a=>nb - a.i) (by decide) ⟨0,.nils,.nils,st0,_⟩ (by exact ⟨Nat.zero_le _,rfl,.inl ⟨rfl,rfl⟩,.inl ⟨rfl,rfl⟩,(by intro b m m' q;cases q),Nat.zero_le _,Nat.zero_le _,fun _ _=>rfl,rfl,hgl,by (try simp only[go_sem]);omega⟩) (by (try simp only[go_sem]);repeat' (first|exact trivial|refine And.intro ?_ ?_|rfl|(simp (disch:=omega) only[go_sem,if_yes,if_no,if_no];rfl)|(simp (disch:=omega) only[go_sem,if_yes,if_no,if_no]))) (by (try simp only[go_sem]);repeat' (first|exact trivial|refine And.intro ?_ ?_|rfl|(simp (disch:=omega) only[go_sem,if_yes,if_no,if_no];rfl)|(simp (disch:=omega) only[go_sem,if_yes,if_no,if_no]))) (HOld.refl _) ?_
 rintro ⟨i,v1,v2,⟨⟨ws,js⟩,m,e⟩,g⟩ c ⟨hi,hrun,hS1,hS2,hd,hwl,hjl,hat,hlp,hgl,hck⟩ hc
 dsimp only at hi hrun hS1 hS2 hd hwl hjl hat hlp hgl hck hc
 simp only[go_sem]
 have hn1:=hS1.noL
 have hn2:=hS2.noL
 have hc1:=hS1.cell
 have hc2:=hS2.cell
 by_cases hil:i < nb
 case neg =>
  as_aux_lemma =>
   obtain rfl:i=nb:=by omega
   rw [← hbl,List.drop_length] at hrun
   have hrd2:=hrd
   rw [hrun] at hrd2
   simp only[runR] at hrd2
   repeat' (first|refine st_seq_reg rfl (by first|(simp only[go_sem,hbl];rfl)|rfl) (by first|(simp only[go_sem,hbl];rfl)|rfl) ?_|refine st_op ?_|refine st_det rfl (by simp (disch:=omega) only[go_sem,wr_i64,hbl];rfl) ?_|(refine st_condS rfl ?_ ?_ <;> intro hg <;> (try simp only[dcT,dcF,bnT,bnF] at hg))|refine st_nil ?_|refine st_tN ?_|refine st_seq ?_|refine st_block ?_|refine st_skip ?_|refine st_exit ?_|refine st_tE ?_|refine st_bH ?_)
   all_goals try (exfalso;omega)
   have hlg:(strs rows).getD i []=[.str (rows.getD i [])]:=strs_getD (by omega)
   obtain ⟨la,hla⟩:∃ la,la=rows.getD i []:=⟨_,rfl⟩
   rw [← hla] at hrd2 hlg
   have hbadk:∀ {k:Nat} {e:Int},rdV text=badV k e→(∃ v',VLe (.tup [.agg [.nils,.nils],.int .i64 (k:Nat),.int .i64 e]) v'∧v'=rdV text):=fun q=>⟨_,bad_le,q.symm⟩
   cases e with
   | false =>
    rw [if_pos rfl,show rows.length=i+1 by omega] at hrd2
    refine asem_seq (fi:=⟨161,[2],[96,119],none,[(16,[0,1,0,4,12,28,0,64,192,448,0,1024,3072,7168,16380,32764,65535,131071,262143],[(0,false),(1,true),(2,false),(3,false),(4,true),(5,false),(6,false),(7,false),(8,true),(9,false),(10,false),(11,false),(12,true),(13,false),(14,false),(15,false),(16,false),(17,false),(18,false)]),(18,[0,1,0,4,12,0,32,96,0,256,768,2044,4092,8191,16383,32767],[(0,false),(1,true),(2,false),(3,false),(4,true),(5,false),(6,false),(7,true),(8,false),(9,false),(10,true),(11,false),(12,false),(13,false),(14,false),(15,false)])]⟩) tab mixed (by decide) ?_
    repeat' (first|refine st_seq_reg rfl (by first|(simp only[go_sem,strs_len];rfl)|rfl) (by first|(simp only[go_sem,strs_len];rfl)|rfl) ?_|refine st_op ?_|refine st_det rfl (by simp (disch:=omega) only[go_sem,wr_i64,strs_len];rfl) ?_|refine st_store (by simp (disch:=omega) only[go_sem,wr_i64,strs_len];rfl) ?_|refine st_gF rfl rfl rfl ?_|refine st_condT rfl ?_|refine st_nil ?_|refine st_ret ?_|refine st_tR ?_)
    simp (disch:=omega) only[AEnd,Tryz.results41,aresK,fin,go_sem,implies_true,true_and,and_true,List.reverse_cons,List.reverse_nil]
    exact ⟨hat,hlp,.inl (hbadk hrd2)⟩
   | true =>
    rw [if_neg (by simp)] at hrd2
    by_cases hl0:la=[]
    case neg =>
     rw [if_pos hl0,show rows.length=i+1 by omega] at hrd2
     refine asem_seq (fi:=⟨161,[2],[96,119],none,[(16,[0,1,0,4,12,28,0,64,192,448,0,1024,3072,7168,16380,32764,65535,131071,262143],[(0,false),(1,true),(2,false),(3,false),(4,true),(5,false),(6,false),(7,false),(8,true),(9,false),(10,false),(11,false),(12,true),(13,false),(14,false),(15,false),(16,false),(17,false),(18,false)]),(18,[0,1,0,4,12,0,32,96,0,256,768,2044,4092,8191,16383,32767],[(0,false),(1,true),(2,false),(3,false),(4,true),(5,false),(6,false),(7,true),(8,false),(9,false),(10,true),(11,false),(12,false),(13,false),(14,false),(15,false)])]⟩) tab mixed (by decide) ?_
     repeat' (first|refine st_seq_reg rfl (by first|(simp only[go_sem,strs_len,hlg,hl0];rfl)|rfl) (by first|(simp only[go_sem,strs_len,hlg,hl0];rfl)|rfl) ?_|refine st_op ?_|refine st_det rfl (by simp (disch:=omega) only[go_sem,wr_i64,strs_len,hlg,hl0];rfl) ?_|refine st_store (by simp (disch:=omega) only[go_sem,wr_i64,strs_len,hlg,hl0];rfl) ?_|refine st_gT rfl rfl rfl ?_|refine st_condT rfl ?_|refine st_nil ?_|refine st_ret ?_|refine st_tR ?_)
     all_goals try (exfalso;omega)
     simp (disch:=omega) only[AEnd,Tryz.results41,aresK,fin,go_sem,implies_true,true_and,and_true,List.reverse_cons,List.reverse_nil]
     exact ⟨hat,hlp,.inl (hbadk hrd2)⟩
    rw [if_neg (fun q=>q hl0)] at hrd2
    refine asem_seq (fi:=⟨161,[2],[96,119],none,[(16,[0,1,0,4,12,28,0,64,192,448,0,1024,3072,7168,16380,32764,65535,131071,262143],[(0,false),(1,true),(2,false),(3,false),(4,true),(5,false),(6,false),(7,false),(8,true),(9,false),(10,false),(11,false),(12,true),(13,false),(14,false),(15,false),(16,false),(17,false),(18,false)]),(18,[0,1,0,4,12,0,32,96,0,256,768,2044,4092,8191,16383,32767],[(0,false),(1,true),(2,false),(3,false),(4,true),(5,false),(6,false),(7,true),(8,false),(9,false),(10,true),(11,false),(12,false),(13,false),(14,false),(15,false)])]⟩) tab mixed (by decide) ?_
    repeat' (first|refine st_seq_reg rfl (by first|(simp only[go_sem,strs_len,hlg,hl0];rfl)|rfl) (by first|(simp only[go_sem,strs_len,hlg,hl0];rfl)|rfl) ?_|refine st_op ?_|refine st_det rfl (by simp (disch:=omega) only[go_sem,wr_i64,strs_len,hlg,hl0];rfl) ?_|refine st_gT rfl rfl rfl ?_|refine st_condF rfl ?_|refine st_nil ?_|refine st_tN ?_|refine st_skip ?_)
    all_goals try (exfalso;omega)
    refine ASem.cutWg (h.clk,2) [] [v2] v1 3 (ws.map Wk.row) (by simp [upd]) (hS1.to (fun _ _ _ _ _=>rfl) (by (try simp only[go_sem]);omega)) (fun b k q=>⟨rfl,by simp only[frzs,hd.frz hS2 _ _ _ q]⟩) fun g1 hk1 hc1a hl1 hg1=>?_
    have hS2':SlA h.clk g1 v2 3 (js.map Jb.row):=hS2.to (fun b1 k q _ _=>hk1 b1 fun m' q'=>hd b1 m' k q' q) (by rw [hc1a];(try simp only[go_sem]);omega)
    refine ASem.cutWg (h.clk,2) [.lst 3 (ws.map Wk.row)] [] v2 3 (js.map Jb.row) (by simp [upd]) hS2' (fun b k q=>⟨by simp only[frzs,frz,frzss_wk],rfl⟩) fun g2 hk2 hc2a hl2 hg2=>?_
    have hc3:g2.clk=c+1+1:=by rw [hc2a,hc1a];rfl
    have hat2:∀ b':Bid,b'.1 < h.clk→g2.at_ b'=h.at_ b':=fun b' hb'=>by
     rw [hk2 b' fun m' q=>by have:=(hS2.lt q).1;omega,hk1 b' fun m' q=>by have:=(hS1.lt q).1;omega]
     exact hat b' hb'
    have hlp2:g2.lp=h.lp:=by rw [hl2,hl1];exact hlp
    obtain ⟨S,hS⟩:∃ S:Sp,S=⟨ws,js⟩:=⟨_,rfl⟩
    by_cases hm:m=js.length
    case neg =>
     rw [if_pos hm] at hrd2
     refine asem_seq (fi:=⟨161,[2],[96,119],none,[(16,[0,1,0,4,12,28,0,64,192,448,0,1024,3072,7168,16380,32764,65535,131071,262143],[(0,false),(1,true),(2,false),(3,false),(4,true),(5,false),(6,false),(7,false),(8,true),(9,false),(10,false),(11,false),(12,true),(13,false),(14,false),(15,false),(16,false),(17,false),(18,false)]),(18,[0,1,0,4,12,0,32,96,0,256,768,2044,4092,8191,16383,32767],[(0,false),(1,true),(2,false),(3,false),(4,true),(5,false),(6,false),(7,true),(8,false),(9,false),(10,true),(11,false),(12,false),(13,false),(14,false),(15,false)])]⟩) tab mixed (by decide) ?_
     repeat' (first|refine st_seq_reg rfl (by first|(simp only[go_sem,length_map,hc3];rfl)|rfl) (by first|(simp only[go_sem,length_map,hc3];rfl)|rfl) ?_|refine st_op ?_|refine st_det rfl (by simp (disch:=omega) only[go_sem,wr_i64,length_map,hc3];rfl) ?_|refine st_store (by simp (disch:=omega) only[go_sem,wr_i64,length_map,hc3];rfl) ?_|(refine st_condS rfl ?_ ?_ <;> intro hg <;> (try simp only[dcT,dcF,bnT,bnF] at hg))|refine st_nil ?_|refine st_tN ?_|refine st_skip ?_|refine st_ret ?_|refine st_tR ?_)
     all_goals try (exfalso;omega)
     simp (disch:=omega) only[AEnd,Tryz.results41,aresK,fin,go_sem,implies_true,true_and,and_true,List.reverse_cons,List.reverse_nil]
     exact ⟨hat2,hlp2,.inl (hbadk hrd2)⟩
    rw [if_neg (fun q=>q hm),← hS] at hrd2
    have k26:=c26 S
    rw [hS] at k26
    rw [← hS] at k26
    by_cases hE:shopE S=0
    case neg =>
     rw [if_pos hE] at hrd2
     refine asem_seq (fi:=⟨161,[2],[96,119],none,[(16,[0,1,0,4,12,28,0,64,192,448,0,1024,3072,7168,16380,32764,65535,131071,262143],[(0,false),(1,true),(2,false),(3,false),(4,true),(5,false),(6,false),(7,false),(8,true),(9,false),(10,false),(11,false),(12,true),(13,false),(14,false),(15,false),(16,false),(17,false),(18,false)]),(18,[0,1,0,4,12,0,32,96,0,256,768,2044,4092,8191,16383,32767],[(0,false),(1,true),(2,false),(3,false),(4,true),(5,false),(6,false),(7,true),(8,false),(9,false),(10,true),(11,false),(12,false),(13,false),(14,false),(15,false)])]⟩) tab mixed (by decide) ?_
     repeat' (first|refine st_seq_reg rfl (by first|(simp only[go_sem,length_map,hc3];rfl)|rfl) (by first|(simp only[go_sem,length_map,hc3];rfl)|rfl) ?_|refine st_op ?_|refine st_det rfl (by simp (disch:=omega) only[go_sem,wr_i64,length_map,hc3];rfl) ?_|refine st_store (by simp (disch:=omega) only[go_sem,wr_i64,length_map,hc3];rfl) ?_|(refine st_condS rfl ?_ ?_ <;> intro hg <;> (try simp only[dcT,dcF,bnT,bnF] at hg))|refine st_nil ?_|refine st_tN ?_|refine st_skip ?_|refine st_ret ?_|refine st_tR ?_)
     all_goals try (exfalso;omega)
     refine asem_seq (fi:=⟨161,[2],[96,119],none,[(16,[0,1,0,4,12,28,0,64,192,448,0,1024,3072,7168,16380,32764,65535,131071,262143],[(0,false),(1,true),(2,false),(3,false),(4,true),(5,false),(6,false),(7,false),(8,true),(9,false),(10,false),(11,false),(12,true),(13,false),(14,false),(15,false),(16,false),(17,false),(18,false)]),(18,[0,1,0,4,12,0,32,96,0,256,768,2044,4092,8191,16383,32767],[(0,false),(1,true),(2,false),(3,false),(4,true),(5,false),(6,false),(7,true),(8,false),(9,false),(10,true),(11,false),(12,false),(13,false),(14,false),(15,false)])]⟩) tab mixed (by decide) ?_
     subst hS
     repeat' (first|refine st_seq_reg rfl (by first|(simp only[go_sem,length_map,hc3];rfl)|rfl) (by first|(simp only[go_sem,length_map,hc3];rfl)|rfl) ?_|refine st_op ?_|refine st_det rfl (by simp (disch:=omega) only[go_sem,wr_i64,length_map,hc3];rfl) ?_|refine st_store (by simp (disch:=omega) only[go_sem,wr_i64,length_map,hc3];rfl) ?_|(refine st_pureE (by first|(simp (disch:=omega) only[go_sem,length_map,hc3];rfl)|rfl) rfl (k26) (by first|(simp only[go_sem,length_map,hc3];rfl)|rfl) (by intro n;first|(simp (disch:=omega) only[go_sem];rfl)|rfl) ?_;intro n hn)|(refine st_condS rfl ?_ ?_ <;> intro hg <;> (try simp only[dcT,dcF,bnT,bnF] at hg))|refine st_nil ?_|refine st_tN ?_|refine st_skip ?_|refine st_ret ?_|refine st_tR ?_)
     all_goals try (exfalso;omega)
     simp (disch:=omega) only[AEnd,Tryz.results41,aresK,fin,go_sem,implies_true,true_and,and_true,List.reverse_cons,List.reverse_nil]
     exact ⟨hat2,hlp2,.inl (hbadk hrd2)⟩
    rw [if_neg (fun q=>q hE)] at hrd2
    refine asem_seq (fi:=⟨161,[2],[96,119],none,[(16,[0,1,0,4,12,28,0,64,192,448,0,1024,3072,7168,16380,32764,65535,131071,262143],[(0,false),(1,true),(2,false),(3,false),(4,true),(5,false),(6,false),(7,false),(8,true),(9,false),(10,false),(11,false),(12,true),(13,false),(14,false),(15,false),(16,false),(17,false),(18,false)]),(18,[0,1,0,4,12,0,32,96,0,256,768,2044,4092,8191,16383,32767],[(0,false),(1,true),(2,false),(3,false),(4,true),(5,false),(6,false),(7,true),(8,false),(9,false),(10,true),(11,false),(12,false),(13,false),(14,false),(15,false)])]⟩) tab mixed (by decide) ?_
    repeat' (first|refine st_seq_reg rfl (by first|(simp only[go_sem,length_map,hc3];rfl)|rfl) (by first|(simp only[go_sem,length_map,hc3];rfl)|rfl) ?_|refine st_op ?_|refine st_det rfl (by simp (disch:=omega) only[go_sem,wr_i64,length_map,hc3];rfl) ?_|refine st_store (by simp (disch:=omega) only[go_sem,wr_i64,length_map,hc3];rfl) ?_|(refine st_condS rfl ?_ ?_ <;> intro hg <;> (try simp only[dcT,dcF,bnT,bnF] at hg))|refine st_nil ?_|refine st_tN ?_|refine st_skip ?_|refine st_ret ?_|refine st_tR ?_)
    all_goals try (exfalso;omega)
    refine asem_seq (fi:=⟨161,[2],[96,119],none,[(16,[0,1,0,4,12,28,0,64,192,448,0,1024,3072,7168,16380,32764,65535,131071,262143],[(0,false),(1,true),(2,false),(3,false),(4,true),(5,false),(6,false),(7,false),(8,true),(9,false),(10,false),(11,false),(12,true),(13,false),(14,false),(15,false),(16,false),(17,false),(18,false)]),(18,[0,1,0,4,12,0,32,96,0,256,768,2044,4092,8191,16383,32767],[(0,false),(1,true),(2,false),(3,false),(4,true),(5,false),(6,false),(7,true),(8,false),(9,false),(10,true),(11,false),(12,false),(13,false),(14,false),(15,false)])]⟩) tab mixed (by decide) ?_
    subst hS
    repeat' (first|refine st_seq_reg rfl (by first|(simp only[go_sem,length_map,hc3];rfl)|rfl) (by first|(simp only[go_sem,length_map,hc3];rfl)|rfl) ?_|refine st_op ?_|refine st_det rfl (by simp (disch:=omega) only[go_sem,wr_i64,length_map,hc3];rfl) ?_|refine st_store (by simp (disch:=omega) only[go_sem,wr_i64,length_map,hc3];rfl) ?_|(refine st_pureE (by first|(simp (disch:=omega) only[go_sem,length_map,hc3];rfl)|rfl) rfl (k26) (by first|(simp only[go_sem,length_map,hc3];rfl)|rfl) (by intro n;first|(simp (disch:=omega) only[go_sem];rfl)|rfl) ?_;intro n hn)|(refine st_condS rfl ?_ ?_ <;> intro hg <;> (try simp only[dcT,dcF,bnT,bnF] at hg))|refine st_nil ?_|refine st_tN ?_|refine st_skip ?_|refine st_ret ?_|refine st_tR ?_)
    all_goals try (exfalso;omega)
    refine asem_seq (fi:=⟨161,[2],[96,119],none,[(16,[0,1,0,4,12,28,0,64,192,448,0,1024,3072,7168,16380,32764,65535,131071,262143],[(0,false),(1,true),(2,false),(3,false),(4,true),(5,false),(6,false),(7,false),(8,true),(9,false),(10,false),(11,false),(12,true),(13,false),(14,false),(15,false),(16,false),(17,false),(18,false)]),(18,[0,1,0,4,12,0,32,96,0,256,768,2044,4092,8191,16383,32767],[(0,false),(1,true),(2,false),(3,false),(4,true),(5,false),(6,false),(7,true),(8,false),(9,false),(10,true),(11,false),(12,false),(13,false),(14,false),(15,false)])]⟩) tab mixed (by decide) ?_
    repeat' (first|refine st_reg rfl (by first|(simp only[go_sem,hc3];rfl)|rfl) (by first|(simp only[go_sem,hc3];rfl)|rfl) ?_|refine st_op ?_|refine st_det rfl (by simp (disch:=omega) only[go_sem,wr_i64,hc3];rfl) ?_|refine st_store (by simp (disch:=omega) only[go_sem,wr_i64,hc3];rfl) ?_|refine st_nil ?_|refine st_tN ?_)
    refine asem_awp (fi:=⟨161,[2],[96,119],none,[(16,[0,1,0,4,12,28,0,64,192,448,0,1024,3072,7168,16380,32764,65535,131071,262143],[(0,false),(1,true),(2,false),(3,false),(4,true),(5,false),(6,false),(7,false),(8,true),(9,false),(10,false),(11,false),(12,true),(13,false),(14,false),(15,false),(16,false),(17,false),(18,false)]),(18,[0,1,0,4,12,0,32,96,0,256,768,2044,4092,8191,16383,32767],[(0,false),(1,true),(2,false),(3,false),(4,true),(5,false),(6,false),(7,true),(8,false),(9,false),(10,true),(11,false),(12,false),(13,false),(14,false),(15,false)])]⟩) tab mixed (by decide) ?_
    repeat' (first|refine st_ret ?_)
    simp (disch:=omega) only[AEnd,Tryz.results41,aresK,fin,go_sem,implies_true,true_and,and_true,List.reverse_cons,List.reverse_nil]
    exact ⟨hat2,hlp2,.inl ⟨_,VLe.refl _,hrd2.symm⟩⟩
 obtain ⟨row,hrow⟩:∃ row,row=body.getD i []:=⟨_,rfl⟩
 have hrl2:row.length≤1000:=hrow ▸ hbs _ (str_mem (by omega))
 have hrg:(strs body).getD i []=[.str row]:=by rw [strs_getD (by omega),hrow]
 rw [run_drop (by omega),← hrow] at hrun
 have k87:=c87 row (by omega)
 have hfail:stepB i ⟨⟨ws,js⟩,m,e⟩ row=none→(∃ v',VLe (.tup [.agg [.nils,.nils],.int .i64 ((i:Int)+1),.int .i64 1]) v'∧v'=rdV text):=by
  intro q
  rw [q] at hrun
  refine ⟨_,bad_le (k:=i+1) (e:=1),?_⟩
  rw [hrd,hrun]
 cases hp:rowP 3 row with
 | none =>
  rw [parV,hp] at k87
  have hf:=hfail (by unfold stepB;rw [hp])
  repeat' (first|refine st_seq_reg rfl (by first|(simp only[go_sem,strs_len,hbl,hrg,hn1,hn2,hc1,hc2];rfl)|rfl) (by first|(simp only[go_sem,strs_len,hbl,hrg,hn1,hn2,hc1,hc2];rfl)|rfl) ?_|refine st_reg rfl (by first|(simp only[go_sem,strs_len,hbl,hrg,hn1,hn2,hc1,hc2];rfl)|rfl) (by first|(simp only[go_sem,strs_len,hbl,hrg,hn1,hn2,hc1,hc2];rfl)|rfl) ?_|refine st_op ?_|refine st_det rfl (by simp (disch:=omega) only[go_sem,wr_i64,strs_len,hbl,hrg,hn1,hn2,hc1,hc2];rfl) ?_|refine st_store (by simp (disch:=omega) only[go_sem,wr_i64,strs_len,hbl,hrg,hn1,hn2,hc1,hc2];rfl) ?_|(refine st_pureGE (by first|(simp (disch:=omega) only[go_sem,strs_len,hbl,hrg,hn1,hn2,hc1,hc2];rfl)|rfl) rfl (k87) (by exact hgl) (by first|(simp only[go_sem,strs_len,hbl,hrg,hn1,hn2,hc1,hc2];rfl)|rfl) (by intro n;first|(simp (disch:=omega) only[go_sem];rfl)|rfl) ?_;intro n hn)|refine st_gF rfl rfl rfl ?_|refine st_condT rfl ?_|(refine st_condS rfl ?_ ?_ <;> intro hg <;> (try simp only[dcT,dcF,bnT,bnF] at hg))|refine st_nil ?_|refine st_tN ?_|refine st_seq ?_|refine st_block ?_|refine st_skip ?_|refine st_exit ?_|refine st_ret ?_|refine st_tE ?_|refine st_tR ?_|refine st_bN ?_|refine st_bR ?_|refine st_bH ?_)
  all_goals try (exfalso;omega)
  simp (disch:=omega) only[AEnd,Tryz.results41,aresK,fin,go_sem,implies_true,true_and,and_true,List.reverse_cons,List.reverse_nil]
  exact ⟨hat,hlp,.inl hf⟩
 | some wl =>
  obtain ⟨w,l⟩:=wl
  rw [parV,hp] at k87
  simp only at k87
  have hle1:alen (tt 51) v1=some (ws.length:Int):=by simpa using SlA.len (ti:=tt 51) hS1 rfl
  have hle2:alen (tt 52) v2=some (js.length:Int):=by simpa using SlA.len (ti:=tt 52) hS2 rfl
  have hst:stepB i ⟨⟨ws,js⟩,m,e⟩ row=(if e=true then none else if ¬ (w=wShop ↔ i=0) then none else if w=wShop then (if l.length=1 then some ⟨⟨ws,js⟩,nth l 0,e⟩ else none) else if w=wWorker then (if l.length=3∧allIn 0 1 l=true∧js.length=0 then some ⟨⟨ws ++ [⟨decide (nth l 0=1),decide (nth l 1=1),decide (nth l 2=1)⟩],js⟩,m,e⟩ else none) else if w=wJob then (if l.length=3 then some ⟨⟨ws,js ++ [⟨nth l 0,nth l 1,nth l 2⟩]⟩,m,e⟩ else none) else if w=wEnd then (if l.length=0 then some ⟨⟨ws,js⟩,m,true⟩ else none) else none):=by unfold stepB;rw [hp]
  have hgt:∀ st',stepB i ⟨⟨ws,js⟩,m,e⟩ row=some st'→runR 0 st0 body=runR (i+1) st' (body.drop (i+1)):=fun st' q=>by rw [hrun,q]
  have B0:=And.intro hbl (And.intro hrg (And.intro hn1 (And.intro hn2 (And.intro hc1 (And.intro hc2 (And.intro hle1 hle2))))))
  have hnl:∀ k,k < l.length→(l.map iv).getD k []=[.int .i64 (nth l k)]:=fun k hk=>by
   rw [List.getD_eq_getElem?_getD,List.getElem?_map,nth,List.getD_eq_getElem?_getD,List.getElem?_eq_getElem hk];rfl
  cases e with
  | true =>
   as_aux_lemma =>
    have hf:=hfail (by rw [hst];simp)
    repeat' (first|refine st_seq_reg rfl (by first|(simp only[go_sem,strs_len,length_map,B0];rfl)|rfl) (by first|(simp only[go_sem,strs_len,length_map,B0];rfl)|rfl) ?_|refine st_reg rfl (by first|(simp only[go_sem,strs_len,length_map,B0];rfl)|rfl) (by first|(simp only[go_sem,strs_len,length_map,B0];rfl)|rfl) ?_|refine st_op ?_|refine st_det rfl (by simp (disch:=omega) only[go_sem,wr_i64,strs_len,length_map,B0];rfl) ?_|refine st_store (by simp (disch:=omega) only[go_sem,wr_i64,strs_len,length_map,B0];rfl) ?_|(refine st_pureGE (by first|(simp (disch:=omega) only[go_sem,strs_len,length_map,B0];rfl)|rfl) rfl (k87) (by exact hgl) (by first|(simp only[go_sem,strs_len,length_map,B0];rfl)|rfl) (by intro n;first|(simp (disch:=omega) only[go_sem];rfl)|rfl) ?_;intro n hn)|refine st_gT rfl rfl rfl ?_|refine st_gF rfl rfl rfl ?_|refine st_condT rfl ?_|(refine st_condS rfl ?_ ?_ <;> intro hg <;> (try simp only[dcT,dcF,bnT,bnF] at hg))|refine st_nil ?_|refine st_tN ?_|refine st_seq ?_|refine st_block ?_|refine st_skip ?_|refine st_exit ?_|refine st_ret ?_|refine st_tE ?_|refine st_tR ?_|refine st_bN ?_|refine st_bR ?_|refine st_bH ?_)
    all_goals try (exfalso;omega)
    simp (disch:=omega) only[AEnd,Tryz.results41,aresK,fin,go_sem,implies_true,true_and,and_true,List.reverse_cons,List.reverse_nil]
    exact ⟨hat,hlp,.inl hf⟩
  | false =>
   rw [if_neg (by simp)] at hst
   by_cases h_shop:w=wShop
   case pos =>
    have h_w:=h_shop
    have f_shop:(w=[115,104,111,112])=True:=eq_true (h_w.trans rfl)
    have f_worker:(w=[119,111,114,107,101,114])=False:=eq_false (by rw [h_w];decide)
    have f_job:(w=[106,111,98])=False:=eq_false (by rw [h_w];decide)
    have f_end:(w=[101,110,100])=False:=eq_false (by rw [h_w];decide)
    by_cases hi0':i=0
    case neg =>
     have hi0:((i:Int)=0)=False:=eq_false (by omega)
     as_aux_lemma =>
      have hf:=hfail (by rw [hst];rw [if_pos (by simp [h_shop,hi0'])])
      have B1:=And.intro f_shop (And.intro f_worker (And.intro f_job (And.intro f_end hi0)))
      repeat' (first|refine st_seq_reg rfl (by first|(simp only[go_sem,strs_len,length_map,B0,B1];rfl)|rfl) (by first|(simp only[go_sem,strs_len,length_map,B0,B1];rfl)|rfl) ?_|refine st_reg rfl (by first|(simp only[go_sem,strs_len,length_map,B0,B1];rfl)|rfl) (by first|(simp only[go_sem,strs_len,length_map,B0,B1];rfl)|rfl) ?_|refine st_op ?_|refine st_det rfl (by simp (disch:=omega) only[go_sem,wr_i64,strs_len,length_map,B0,B1];rfl) ?_|refine st_store (by simp (disch:=omega) only[go_sem,wr_i64,strs_len,length_map,B0,B1];rfl) ?_|(refine st_pureGE (by first|(simp (disch:=omega) only[go_sem,strs_len,length_map,B0,B1];rfl)|rfl) rfl (k87) (by exact hgl) (by first|(simp only[go_sem,strs_len,length_map,B0,B1];rfl)|rfl) (by intro n;first|(simp (disch:=omega) only[go_sem];rfl)|rfl) ?_;intro n hn)|refine st_gT rfl rfl rfl ?_|refine st_condT rfl ?_|(refine st_condS rfl ?_ ?_ <;> intro hg <;> (try simp only[dcT,dcF,bnT,bnF] at hg))|refine st_nil ?_|refine st_tN ?_|refine st_seq ?_|refine st_block ?_|refine st_skip ?_|refine st_exit ?_|refine st_ret ?_|refine st_tE ?_|refine st_tR ?_|refine st_bN ?_|refine st_bR ?_|refine st_bH ?_)
      all_goals try (exfalso;omega)
      simp (disch:=omega) only[AEnd,Tryz.results41,aresK,fin,go_sem,implies_true,true_and,and_true,List.reverse_cons,List.reverse_nil]
      exact ⟨hat,hlp,.inl hf⟩
    have hi0:((i:Int)=0)=True:=eq_true (by omega)
    rw [if_neg (by simp [h_shop,hi0']),if_pos h_shop] at hst
    by_cases hl:l.length=1
    case neg =>
     as_aux_lemma =>
      have hf:=hfail (by rw [hst];rw [if_neg hl])
      have B1:=And.intro f_shop (And.intro f_worker (And.intro f_job (And.intro f_end hi0)))
      repeat' (first|refine st_seq_reg rfl (by first|(simp only[go_sem,strs_len,length_map,B0,B1];rfl)|rfl) (by first|(simp only[go_sem,strs_len,length_map,B0,B1];rfl)|rfl) ?_|refine st_reg rfl (by first|(simp only[go_sem,strs_len,length_map,B0,B1];rfl)|rfl) (by first|(simp only[go_sem,strs_len,length_map,B0,B1];rfl)|rfl) ?_|refine st_op ?_|refine st_det rfl (by simp (disch:=omega) only[go_sem,wr_i64,strs_len,length_map,B0,B1];rfl) ?_|refine st_store (by simp (disch:=omega) only[go_sem,wr_i64,strs_len,length_map,B0,B1];rfl) ?_|(refine st_pureGE (by first|(simp (disch:=omega) only[go_sem,strs_len,length_map,B0,B1];rfl)|rfl) rfl (k87) (by exact hgl) (by first|(simp only[go_sem,strs_len,length_map,B0,B1];rfl)|rfl) (by intro n;first|(simp (disch:=omega) only[go_sem];rfl)|rfl) ?_;intro n hn)|refine st_gT rfl rfl rfl ?_|refine st_gF rfl rfl rfl ?_|refine st_condT rfl ?_|refine st_condF rfl ?_|(refine st_condS rfl ?_ ?_ <;> intro hg <;> (try simp only[dcT,dcF,bnT,bnF] at hg))|refine st_nil ?_|refine st_tN ?_|refine st_seq ?_|refine st_block ?_|refine st_skip ?_|refine st_exit ?_|refine st_ret ?_|refine st_tE ?_|refine st_tR ?_|refine st_bN ?_|refine st_bR ?_|refine st_bH ?_)
      all_goals try (exfalso;omega)
      simp (disch:=omega) only[AEnd,Tryz.results41,aresK,fin,go_sem,implies_true,true_and,and_true,List.reverse_cons,List.reverse_nil]
      exact ⟨hat,hlp,.inl hf⟩
    have hl0:=hnl 0 (by omega)
    as_aux_lemma =>
     have hr2:=hgt ⟨⟨ws,js⟩,nth l 0,false⟩ (by rw [hst];rw [if_pos hl])
     have B1:=And.intro f_shop (And.intro f_worker (And.intro f_job (And.intro f_end (And.intro hi0 hl0))))
     repeat' (first|refine st_seq_reg rfl (by first|(simp only[go_sem,strs_len,length_map,B0,B1];rfl)|rfl) (by first|(simp only[go_sem,strs_len,length_map,B0,B1];rfl)|rfl) ?_|refine st_reg rfl (by first|(simp only[go_sem,strs_len,length_map,B0,B1];rfl)|rfl) (by first|(simp only[go_sem,strs_len,length_map,B0,B1];rfl)|rfl) ?_|refine st_op ?_|refine st_det rfl (by simp (disch:=omega) only[go_sem,wr_i64,strs_len,length_map,B0,B1];rfl) ?_|refine st_store (by simp (disch:=omega) only[go_sem,wr_i64,strs_len,length_map,B0,B1];rfl) ?_|(refine st_pureGE (by first|(simp (disch:=omega) only[go_sem,strs_len,length_map,B0,B1];rfl)|rfl) rfl (k87) (by exact hgl) (by first|(simp only[go_sem,strs_len,length_map,B0,B1];rfl)|rfl) (by intro n;first|(simp (disch:=omega) only[go_sem];rfl)|rfl) ?_;intro n hn)|refine st_gT rfl rfl rfl ?_|refine st_gF rfl rfl rfl ?_|refine st_condT rfl ?_|refine st_condF rfl ?_|(refine st_condS rfl ?_ ?_ <;> intro hg <;> (try simp only[dcT,dcF,bnT,bnF] at hg))|refine st_nil ?_|refine st_tN ?_|refine st_seq ?_|refine st_block ?_|refine st_skip ?_|refine st_exit ?_|refine st_ret ?_|refine st_tE ?_|refine st_tR ?_|refine st_bN ?_|refine st_bR ?_|refine st_bH ?_)
     all_goals try (exfalso;omega)
     refine ⟨⟨i+1,v1,v2,_,_⟩,(by exact ⟨by show i+1≤nb;omega,hr2,hS1.to (fun _ _ _ _ _=>rfl) (by (try simp only[go_sem]);omega),hS2.to (fun _ _ _ _ _=>rfl) (by (try simp only[go_sem]);omega),hd,by show ws.length≤i+1;omega,by show js.length≤i+1;omega,hat,hlp,hgl,by (try simp only[go_sem]);omega⟩),(by show nb - (i+1) < nb - i;omega),(by repeat' (first|exact trivial|refine And.intro ?_ ?_|rfl|(simp (disch:=omega) only[go_sem,if_yes,if_no,if_no];rfl)|(simp (disch:=omega) only[go_sem,if_yes,if_no,if_no]))),(by repeat' (first|exact trivial|refine And.intro ?_ ?_|rfl|(simp (disch:=omega) only[go_sem,if_yes,if_no,if_no];rfl)|(simp (disch:=omega) only[go_sem,if_yes,if_no,if_no]))),rfl,HOld.refl _⟩
   by_cases hi0':i=0
   case pos =>
    have hi0:((i:Int)=0)=True:=eq_true (by omega)
    have f_shop:(w=[115,104,111,112])=False:=eq_false h_shop
    as_aux_lemma =>
     have hf:=hfail (by rw [hst];rw [if_pos (by simp [h_shop,hi0'])])
     have B1:=And.intro f_shop hi0
     repeat' (first|refine st_seq_reg rfl (by first|(simp only[go_sem,strs_len,length_map,B0,B1];rfl)|rfl) (by first|(simp only[go_sem,strs_len,length_map,B0,B1];rfl)|rfl) ?_|refine st_reg rfl (by first|(simp only[go_sem,strs_len,length_map,B0,B1];rfl)|rfl) (by first|(simp only[go_sem,strs_len,length_map,B0,B1];rfl)|rfl) ?_|refine st_op ?_|refine st_det rfl (by simp (disch:=omega) only[go_sem,wr_i64,strs_len,length_map,B0,B1];rfl) ?_|refine st_store (by simp (disch:=omega) only[go_sem,wr_i64,strs_len,length_map,B0,B1];rfl) ?_|(refine st_pureGE (by first|(simp (disch:=omega) only[go_sem,strs_len,length_map,B0,B1];rfl)|rfl) rfl (k87) (by exact hgl) (by first|(simp only[go_sem,strs_len,length_map,B0,B1];rfl)|rfl) (by intro n;first|(simp (disch:=omega) only[go_sem];rfl)|rfl) ?_;intro n hn)|refine st_gT rfl rfl rfl ?_|refine st_condT rfl ?_|(refine st_condS rfl ?_ ?_ <;> intro hg <;> (try simp only[dcT,dcF,bnT,bnF] at hg))|refine st_nil ?_|refine st_tN ?_|refine st_seq ?_|refine st_block ?_|refine st_skip ?_|refine st_exit ?_|refine st_ret ?_|refine st_tE ?_|refine st_tR ?_|refine st_bN ?_|refine st_bR ?_|refine st_bH ?_)
     all_goals try (exfalso;omega)
     simp (disch:=omega) only[AEnd,Tryz.results41,aresK,fin,go_sem,implies_true,true_and,and_true,List.reverse_cons,List.reverse_nil]
     exact ⟨hat,hlp,.inl hf⟩
   have hi0:((i:Int)=0)=False:=eq_false (by omega)
   rw [if_neg (by simp [h_shop,hi0']),if_neg h_shop] at hst
   by_cases h_worker:w=wWorker
   case pos =>
    have h_w:=h_worker
    have f_shop:(w=[115,104,111,112])=False:=eq_false (by rw [h_w];decide)
    have f_worker:(w=[119,111,114,107,101,114])=True:=eq_true (h_w.trans rfl)
    have f_job:(w=[106,111,98])=False:=eq_false (by rw [h_w];decide)
    have f_end:(w=[101,110,100])=False:=eq_false (by rw [h_w];decide)
    rw [if_pos h_worker] at hst
    have k66:=c66 0 1 l
    by_cases hl:l.length=3
    case neg =>
     as_aux_lemma =>
      have hf:=hfail (by rw [hst];rw [if_neg (fun q=>hl q.1)])
      have B1:=And.intro f_shop (And.intro f_worker (And.intro f_job (And.intro f_end hi0)))
      repeat' (first|refine st_seq_reg rfl (by first|(simp only[go_sem,strs_len,length_map,B0,B1];rfl)|rfl) (by first|(simp only[go_sem,strs_len,length_map,B0,B1];rfl)|rfl) ?_|refine st_reg rfl (by first|(simp only[go_sem,strs_len,length_map,B0,B1];rfl)|rfl) (by first|(simp only[go_sem,strs_len,length_map,B0,B1];rfl)|rfl) ?_|refine st_op ?_|refine st_det rfl (by simp (disch:=omega) only[go_sem,wr_i64,strs_len,length_map,B0,B1];rfl) ?_|refine st_store (by simp (disch:=omega) only[go_sem,wr_i64,strs_len,length_map,B0,B1];rfl) ?_|(refine st_pureGE (by first|(simp (disch:=omega) only[go_sem,strs_len,length_map,B0,B1];rfl)|rfl) rfl (k87) (by exact hgl) (by first|(simp only[go_sem,strs_len,length_map,B0,B1];rfl)|rfl) (by intro n;first|(simp (disch:=omega) only[go_sem];rfl)|rfl) ?_;intro n hn)|refine st_gT rfl rfl rfl ?_|refine st_gF rfl rfl rfl ?_|(refine st_gS rfl rfl ?_ ?_ <;> intro hg <;> (try simp only[dcT,dcF,bnT,bnF] at hg))|refine st_condT rfl ?_|refine st_condF rfl ?_|(refine st_condS rfl ?_ ?_ <;> intro hg <;> (try simp only[dcT,dcF,bnT,bnF] at hg))|refine st_nil ?_|refine st_tN ?_|refine st_seq ?_|refine st_block ?_|refine st_skip ?_|refine st_exit ?_|refine st_ret ?_|refine st_tE ?_|refine st_tR ?_|refine st_bN ?_|refine st_bR ?_|refine st_bH ?_)
      all_goals try (exfalso;omega)
      simp (disch:=omega) only[AEnd,Tryz.results41,aresK,fin,go_sem,implies_true,true_and,and_true,List.reverse_cons,List.reverse_nil]
      exact ⟨hat,hlp,.inl hf⟩
    have k66:=c66 0 1 l (by omega)
    by_cases ha:allIn 0 1 l=true
    case neg =>
     have ha':allIn 0 1 l=false:=by simpa using ha
     as_aux_lemma =>
      have hf:=hfail (by rw [hst];rw [if_neg (fun q=>ha q.2.1)])
      have B1:=And.intro f_shop (And.intro f_worker (And.intro f_job (And.intro f_end (And.intro hi0 ha'))))
      repeat' (first|refine st_seq_reg rfl (by first|(simp only[go_sem,strs_len,length_map,B0,B1];rfl)|rfl) (by first|(simp only[go_sem,strs_len,length_map,B0,B1];rfl)|rfl) ?_|refine st_reg rfl (by first|(simp only[go_sem,strs_len,length_map,B0,B1];rfl)|rfl) (by first|(simp only[go_sem,strs_len,length_map,B0,B1];rfl)|rfl) ?_|refine st_op ?_|refine st_det rfl (by simp (disch:=omega) only[go_sem,wr_i64,strs_len,length_map,B0,B1];rfl) ?_|refine st_store (by simp (disch:=omega) only[go_sem,wr_i64,strs_len,length_map,B0,B1];rfl) ?_|(refine st_pureGE (by first|(simp (disch:=omega) only[go_sem,strs_len,length_map,B0,B1];rfl)|rfl) rfl (k87) (by exact hgl) (by first|(simp only[go_sem,strs_len,length_map,B0,B1];rfl)|rfl) (by intro n;first|(simp (disch:=omega) only[go_sem];rfl)|rfl) ?_;intro n hn)|(refine st_pureE (by first|(simp (disch:=omega) only[go_sem,strs_len,length_map,B0,B1];rfl)|rfl) rfl (k66) (by first|(simp only[go_sem,strs_len,length_map,B0,B1];rfl)|rfl) (by intro n;first|(simp (disch:=omega) only[go_sem];rfl)|rfl) ?_;intro n hn)|refine st_gT rfl rfl rfl ?_|refine st_gF rfl rfl rfl ?_|(refine st_gS rfl rfl ?_ ?_ <;> intro hg <;> (try simp only[dcT,dcF,bnT,bnF] at hg))|refine st_condT rfl ?_|refine st_condF rfl ?_|(refine st_condS rfl ?_ ?_ <;> intro hg <;> (try simp only[dcT,dcF,bnT,bnF] at hg))|refine st_nil ?_|refine st_tN ?_|refine st_seq ?_|refine st_block ?_|refine st_skip ?_|refine st_exit ?_|refine st_ret ?_|refine st_tE ?_|refine st_tR ?_|refine st_bN ?_|refine st_bR ?_|refine st_bH ?_)
      all_goals try (exfalso;omega)
      simp (disch:=omega) only[AEnd,Tryz.results41,aresK,fin,go_sem,implies_true,true_and,and_true,List.reverse_cons,List.reverse_nil]
      exact ⟨hat,hlp,.inl hf⟩
    by_cases hj:js.length=0
    case neg =>
     as_aux_lemma =>
      have hf:=hfail (by rw [hst];rw [if_neg (fun q=>hj q.2.2)])
      have B1:=And.intro f_shop (And.intro f_worker (And.intro f_job (And.intro f_end (And.intro hi0 ha))))
      repeat' (first|refine st_seq_reg rfl (by first|(simp only[go_sem,strs_len,length_map,B0,B1];rfl)|rfl) (by first|(simp only[go_sem,strs_len,length_map,B0,B1];rfl)|rfl) ?_|refine st_reg rfl (by first|(simp only[go_sem,strs_len,length_map,B0,B1];rfl)|rfl) (by first|(simp only[go_sem,strs_len,length_map,B0,B1];rfl)|rfl) ?_|refine st_draw rfl (by first|(simp only[go_sem,strs_len,length_map,B0,B1];rfl)|rfl) (by first|(simp only[go_sem,strs_len,length_map,B0,B1];rfl)|rfl) ?_|refine st_op ?_|refine st_det rfl (by simp (disch:=omega) only[go_sem,wr_i64,strs_len,length_map,B0,B1];rfl) ?_|refine st_dop rfl ?_|refine st_store (by simp (disch:=omega) only[go_sem,wr_i64,strs_len,length_map,B0,B1];rfl) ?_|(refine st_pureGE (by first|(simp (disch:=omega) only[go_sem,strs_len,length_map,B0,B1];rfl)|rfl) rfl (k87) (by exact hgl) (by first|(simp only[go_sem,strs_len,length_map,B0,B1];rfl)|rfl) (by intro n;first|(simp (disch:=omega) only[go_sem];rfl)|rfl) ?_;intro n hn)|(refine st_pureE (by first|(simp (disch:=omega) only[go_sem,strs_len,length_map,B0,B1];rfl)|rfl) rfl (k66) (by first|(simp only[go_sem,strs_len,length_map,B0,B1];rfl)|rfl) (by intro n;first|(simp (disch:=omega) only[go_sem];rfl)|rfl) ?_;intro n hn)|refine st_gT rfl rfl rfl ?_|refine st_gF rfl rfl rfl ?_|(refine st_gS rfl rfl ?_ ?_ <;> intro hg <;> (try simp only[dcT,dcF,bnT,bnF] at hg))|refine st_condT rfl ?_|refine st_condF rfl ?_|(refine st_condS rfl ?_ ?_ <;> intro hg <;> (try simp only[dcT,dcF,bnT,bnF] at hg))|refine st_nil ?_|refine st_tN ?_|refine st_seq ?_|refine st_block ?_|refine st_skip ?_|refine st_exit ?_|refine st_ret ?_|refine st_tE ?_|refine st_tR ?_|refine st_bN ?_|refine st_bR ?_|refine st_bH ?_)
      all_goals try (exfalso;omega)
      simp (disch:=omega) only[AEnd,Tryz.results41,aresK,fin,go_sem,implies_true,true_and,and_true,List.reverse_cons,List.reverse_nil]
      exact ⟨hat,hlp,.inl hf⟩
    have hl0:=hnl 0 (by omega)
    have hl1:=hnl 1 (by omega)
    have hl2:=hnl 2 (by omega)
    as_aux_lemma =>
     have hr2:=hgt ⟨⟨ws ++ [⟨decide (nth l 0=1),decide (nth l 1=1),decide (nth l 2=1)⟩],js⟩,m,false⟩ (by rw [hst];rw [if_pos ⟨hl,ha,hj⟩])
     have B1:=And.intro f_shop (And.intro f_worker (And.intro f_job (And.intro f_end (And.intro hi0 (And.intro ha (And.intro hj (And.intro hl0 (And.intro hl1 hl2))))))))
     repeat' (first|refine st_seq_reg rfl (by first|(simp only[go_sem,strs_len,length_map,B0,B1];rfl)|rfl) (by first|(simp only[go_sem,strs_len,length_map,B0,B1];rfl)|rfl) ?_|refine st_reg rfl (by first|(simp only[go_sem,strs_len,length_map,B0,B1];rfl)|rfl) (by first|(simp only[go_sem,strs_len,length_map,B0,B1];rfl)|rfl) ?_|refine st_draw rfl (by first|(simp only[go_sem,strs_len,length_map,B0,B1];rfl)|rfl) (by first|(simp only[go_sem,strs_len,length_map,B0,B1];rfl)|rfl) ?_|refine st_op ?_|refine st_det rfl (by simp (disch:=omega) only[go_sem,wr_i64,strs_len,length_map,B0,B1];rfl) ?_|refine st_dop rfl ?_|refine st_store (by simp (disch:=omega) only[go_sem,wr_i64,strs_len,length_map,B0,B1];rfl) ?_|(refine st_pureGE (by first|(simp (disch:=omega) only[go_sem,strs_len,length_map,B0,B1];rfl)|rfl) rfl (k87) (by exact hgl) (by first|(simp only[go_sem,strs_len,length_map,B0,B1];rfl)|rfl) (by intro n;first|(simp (disch:=omega) only[go_sem];rfl)|rfl) ?_;intro n hn)|(refine st_pureE (by first|(simp (disch:=omega) only[go_sem,strs_len,length_map,B0,B1];rfl)|rfl) rfl (k66) (by first|(simp only[go_sem,strs_len,length_map,B0,B1];rfl)|rfl) (by intro n;first|(simp (disch:=omega) only[go_sem];rfl)|rfl) ?_;intro n hn)|(refine st_appSg (by intro h id x y;simp only[go_sem];rfl) rfl (by simp only[go_sem,strs_len,length_map,B0,B1];rfl) (by first|(simp only[go_sem,strs_len,length_map,B0,B1];rfl)|rfl) (by decide) hS1 (fun _ _ _=>rfl) (by omega) (by simp only[length_map,List.length_cons,List.length_nil,big,strs_len,length_map,B0,B1];omega) (by omega) (by omega) ?_;intro v' g' hA hAg)|refine st_gT rfl rfl rfl ?_|refine st_gF rfl rfl rfl ?_|(refine st_gS rfl rfl ?_ ?_ <;> intro hg <;> (try simp only[dcT,dcF,bnT,bnF] at hg))|refine st_condT rfl ?_|refine st_condF rfl ?_|(refine st_condS rfl ?_ ?_ <;> intro hg <;> (try simp only[dcT,dcF,bnT,bnF] at hg))|refine st_nil ?_|refine st_tN ?_|refine st_seq ?_|refine st_block ?_|refine st_skip ?_|refine st_exit ?_|refine st_ret ?_|refine st_tE ?_|refine st_tR ?_|refine st_bN ?_|refine st_bR ?_|refine st_bH ?_)
     all_goals try (exfalso;omega)
     have hcv:=hA.sl.cell
     have hnv:=hA.nol
     have hcs:=SlA.cells hA.sl
     repeat' (first|refine st_seq_reg rfl (by first|(simp only[go_sem,hcv,hnv,hcs];rfl)|rfl) (by first|(simp only[go_sem,hcv,hnv,hcs];rfl)|rfl) ?_|refine st_reg rfl (by first|(simp only[go_sem,hcv,hnv,hcs];rfl)|rfl) (by first|(simp only[go_sem,hcv,hnv,hcs];rfl)|rfl) ?_|refine st_op ?_|refine st_det rfl (by simp (disch:=omega) only[go_sem,wr_i64,hcv,hnv,hcs];rfl) ?_|refine st_store (by simp (disch:=omega) only[go_sem,wr_i64,hcv,hnv,hcs];rfl) ?_|refine st_condF rfl ?_|refine st_nil ?_|refine st_dnil ?_|refine st_tN ?_|refine st_skip ?_|refine st_bN ?_)
     have hdn:Dis 3 3 v' v2:=by
      intro b k k' q q'
      rcases hA.new with e|e
      ·rw [e] at q;cases q
      ·rw [e] at q;injection q with q _ _;have:=(hS2.lt q').2.1;rw [← q] at this;simp only at this;omega
     refine ⟨⟨i+1,v',v2,_,_⟩,(by exact ⟨by show i+1≤nb;omega,hr2,by rw [List.map_append];exact hA.sl.to (fun _ _ _ _ _=>rfl) (by (try simp only[go_sem]);omega),hS2.to (fun b1 k q q1 q2=>hA.keep b1 (fun m' q'=>hd b1 m' k q' q) (fun q'=>by rw [q'] at q2;simp only[go_sem] at q2;omega)) (by (try simp only[go_sem]);omega),hdn,by show (ws ++ [_]).length≤i+1;simp;omega,by show js.length≤i+1;omega,fun b' hb'=>(hA.old b' hb').trans (hat b' hb'),hA.lp.trans hlp,hAg.trans hgl,by (try simp only[go_sem]);omega⟩),(by show nb - (i+1) < nb - i;omega),(by repeat' (first|exact trivial|refine And.intro ?_ ?_|rfl|(simp (disch:=omega) only[go_sem,if_yes,if_no,if_no];rfl)|(simp (disch:=omega) only[go_sem,if_yes,if_no,if_no]))),(by repeat' (first|exact trivial|refine And.intro ?_ ?_|rfl|(simp (disch:=omega) only[go_sem,if_yes,if_no,if_no];rfl)|(simp (disch:=omega) only[go_sem,if_yes,if_no,if_no]))),rfl,HOld.refl _⟩
   rw [if_neg h_worker] at hst
   by_cases h_job:w=wJob
   case pos =>
    have h_w:=h_job
    have f_shop:(w=[115,104,111,112])=False:=eq_false (by rw [h_w];decide)
    have f_worker:(w=[119,111,114,107,101,114])=False:=eq_false (by rw [h_w];decide)
    have f_job:(w=[106,111,98])=True:=eq_true (h_w.trans rfl)
    have f_end:(w=[101,110,100])=False:=eq_false (by rw [h_w];decide)
    rw [if_pos h_job] at hst
    by_cases hl:l.length=3
    case neg =>
     as_aux_lemma =>
      have hf:=hfail (by rw [hst];rw [if_neg hl])
      have B1:=And.intro f_shop (And.intro f_worker (And.intro f_job (And.intro f_end hi0)))
      repeat' (first|refine st_seq_reg rfl (by first|(simp only[go_sem,strs_len,length_map,B0,B1];rfl)|rfl) (by first|(simp only[go_sem,strs_len,length_map,B0,B1];rfl)|rfl) ?_|refine st_reg rfl (by first|(simp only[go_sem,strs_len,length_map,B0,B1];rfl)|rfl) (by first|(simp only[go_sem,strs_len,length_map,B0,B1];rfl)|rfl) ?_|refine st_draw rfl (by first|(simp only[go_sem,strs_len,length_map,B0,B1];rfl)|rfl) (by first|(simp only[go_sem,strs_len,length_map,B0,B1];rfl)|rfl) ?_|refine st_op ?_|refine st_det rfl (by simp (disch:=omega) only[go_sem,wr_i64,strs_len,length_map,B0,B1];rfl) ?_|refine st_dop rfl ?_|refine st_store (by simp (disch:=omega) only[go_sem,wr_i64,strs_len,length_map,B0,B1];rfl) ?_|(refine st_pureGE (by first|(simp (disch:=omega) only[go_sem,strs_len,length_map,B0,B1];rfl)|rfl) rfl (k87) (by exact hgl) (by first|(simp only[go_sem,strs_len,length_map,B0,B1];rfl)|rfl) (by intro n;first|(simp (disch:=omega) only[go_sem];rfl)|rfl) ?_;intro n hn)|refine st_gT rfl rfl rfl ?_|refine st_gF rfl rfl rfl ?_|refine st_condT rfl ?_|refine st_condF rfl ?_|(refine st_condS rfl ?_ ?_ <;> intro hg <;> (try simp only[dcT,dcF,bnT,bnF] at hg))|refine st_nil ?_|refine st_tN ?_|refine st_seq ?_|refine st_block ?_|refine st_skip ?_|refine st_exit ?_|refine st_ret ?_|refine st_tE ?_|refine st_tR ?_|refine st_bN ?_|refine st_bR ?_|refine st_bH ?_)
      all_goals try (exfalso;omega)
      simp (disch:=omega) only[AEnd,Tryz.results41,aresK,fin,go_sem,implies_true,true_and,and_true,List.reverse_cons,List.reverse_nil]
      exact ⟨hat,hlp,.inl hf⟩
    have hl0:=hnl 0 (by omega)
    have hl1:=hnl 1 (by omega)
    have hl2:=hnl 2 (by omega)
    as_aux_lemma =>
     have hr2:=hgt ⟨⟨ws,js ++ [⟨nth l 0,nth l 1,nth l 2⟩]⟩,m,false⟩ (by rw [hst];rw [if_pos hl])
     have B1:=And.intro f_shop (And.intro f_worker (And.intro f_job (And.intro f_end (And.intro hi0 (And.intro hl0 (And.intro hl1 hl2))))))
     repeat' (first|refine st_seq_reg rfl (by first|(simp only[go_sem,strs_len,length_map,B0,B1];rfl)|rfl) (by first|(simp only[go_sem,strs_len,length_map,B0,B1];rfl)|rfl) ?_|refine st_reg rfl (by first|(simp only[go_sem,strs_len,length_map,B0,B1];rfl)|rfl) (by first|(simp only[go_sem,strs_len,length_map,B0,B1];rfl)|rfl) ?_|refine st_draw rfl (by first|(simp only[go_sem,strs_len,length_map,B0,B1];rfl)|rfl) (by first|(simp only[go_sem,strs_len,length_map,B0,B1];rfl)|rfl) ?_|refine st_op ?_|refine st_det rfl (by simp (disch:=omega) only[go_sem,wr_i64,strs_len,length_map,B0,B1];rfl) ?_|refine st_dop rfl ?_|refine st_store (by simp (disch:=omega) only[go_sem,wr_i64,strs_len,length_map,B0,B1];rfl) ?_|(refine st_pureGE (by first|(simp (disch:=omega) only[go_sem,strs_len,length_map,B0,B1];rfl)|rfl) rfl (k87) (by exact hgl) (by first|(simp only[go_sem,strs_len,length_map,B0,B1];rfl)|rfl) (by intro n;first|(simp (disch:=omega) only[go_sem];rfl)|rfl) ?_;intro n hn)|(refine st_appSg (by intro h id x y;simp only[go_sem];rfl) rfl (by simp only[go_sem,strs_len,length_map,B0,B1];rfl) (by first|(simp only[go_sem,strs_len,length_map,B0,B1];rfl)|rfl) (by decide) hS2 (fun _ _ _=>rfl) (by omega) (by simp only[length_map,List.length_cons,List.length_nil,big,strs_len,length_map,B0,B1];omega) (by omega) (by omega) ?_;intro v' g' hA hAg)|refine st_gT rfl rfl rfl ?_|refine st_gF rfl rfl rfl ?_|refine st_condT rfl ?_|refine st_condF rfl ?_|(refine st_condS rfl ?_ ?_ <;> intro hg <;> (try simp only[dcT,dcF,bnT,bnF] at hg))|refine st_nil ?_|refine st_tN ?_|refine st_seq ?_|refine st_block ?_|refine st_skip ?_|refine st_exit ?_|refine st_ret ?_|refine st_tE ?_|refine st_tR ?_|refine st_bN ?_|refine st_bR ?_|refine st_bH ?_)
     all_goals try (exfalso;omega)
     have hcv:=hA.sl.cell
     have hnv:=hA.nol
     have hcs:=SlA.cells hA.sl
     repeat' (first|refine st_seq_reg rfl (by first|(simp only[go_sem,hcv,hnv,hcs];rfl)|rfl) (by first|(simp only[go_sem,hcv,hnv,hcs];rfl)|rfl) ?_|refine st_reg rfl (by first|(simp only[go_sem,hcv,hnv,hcs];rfl)|rfl) (by first|(simp only[go_sem,hcv,hnv,hcs];rfl)|rfl) ?_|refine st_op ?_|refine st_det rfl (by simp (disch:=omega) only[go_sem,wr_i64,hcv,hnv,hcs];rfl) ?_|refine st_store (by simp (disch:=omega) only[go_sem,wr_i64,hcv,hnv,hcs];rfl) ?_|refine st_condF rfl ?_|refine st_nil ?_|refine st_dnil ?_|refine st_tN ?_|refine st_skip ?_|refine st_bN ?_)
     have hdn:Dis 3 3 v1 v':=by
      intro b k k' q q'
      rcases hA.new with e|e
      ·rw [e] at q';cases q'
      ·rw [e] at q';injection q' with q' _ _;have:=(hS1.lt q).2.1;rw [← q'] at this;simp only at this;omega
     refine ⟨⟨i+1,v1,v',_,_⟩,(by exact ⟨by show i+1≤nb;omega,hr2,hS1.to (fun b1 k q q1 q2=>hA.keep b1 (fun m' q'=>hd b1 k m' q q') (fun q'=>by rw [q'] at q2;simp only[go_sem] at q2;omega)) (by (try simp only[go_sem]);omega),by rw [List.map_append];exact hA.sl.to (fun _ _ _ _ _=>rfl) (by (try simp only[go_sem]);omega),hdn,by show ws.length≤i+1;omega,by show (js ++ [_]).length≤i+1;simp;omega,fun b' hb'=>(hA.old b' hb').trans (hat b' hb'),hA.lp.trans hlp,hAg.trans hgl,by (try simp only[go_sem]);omega⟩),(by show nb - (i+1) < nb - i;omega),(by repeat' (first|exact trivial|refine And.intro ?_ ?_|rfl|(simp (disch:=omega) only[go_sem,if_yes,if_no,if_no];rfl)|(simp (disch:=omega) only[go_sem,if_yes,if_no,if_no]))),(by repeat' (first|exact trivial|refine And.intro ?_ ?_|rfl|(simp (disch:=omega) only[go_sem,if_yes,if_no,if_no];rfl)|(simp (disch:=omega) only[go_sem,if_yes,if_no,if_no]))),rfl,HOld.refl _⟩
   rw [if_neg h_job] at hst
   by_cases h_end:w=wEnd
   case pos =>
    have h_w:=h_end
    have f_shop:(w=[115,104,111,112])=False:=eq_false (by rw [h_w];decide)
    have f_worker:(w=[119,111,114,107,101,114])=False:=eq_false (by rw [h_w];decide)
    have f_job:(w=[106,111,98])=False:=eq_false (by rw [h_w];decide)
    have f_end:(w=[101,110,100])=True:=eq_true (h_w.trans rfl)
    rw [if_pos h_end] at hst
    by_cases hl:l.length=0
    case neg =>
     as_aux_lemma =>
      have hf:=hfail (by rw [hst];rw [if_neg hl])
      have B1:=And.intro f_shop (And.intro f_worker (And.intro f_job (And.intro f_end hi0)))
      repeat' (first|refine st_seq_reg rfl (by first|(simp only[go_sem,strs_len,length_map,B0,B1];rfl)|rfl) (by first|(simp only[go_sem,strs_len,length_map,B0,B1];rfl)|rfl) ?_|refine st_reg rfl (by first|(simp only[go_sem,strs_len,length_map,B0,B1];rfl)|rfl) (by first|(simp only[go_sem,strs_len,length_map,B0,B1];rfl)|rfl) ?_|refine st_op ?_|refine st_det rfl (by simp (disch:=omega) only[go_sem,wr_i64,strs_len,length_map,B0,B1];rfl) ?_|refine st_store (by simp (disch:=omega) only[go_sem,wr_i64,strs_len,length_map,B0,B1];rfl) ?_|(refine st_pureGE (by first|(simp (disch:=omega) only[go_sem,strs_len,length_map,B0,B1];rfl)|rfl) rfl (k87) (by exact hgl) (by first|(simp only[go_sem,strs_len,length_map,B0,B1];rfl)|rfl) (by intro n;first|(simp (disch:=omega) only[go_sem];rfl)|rfl) ?_;intro n hn)|refine st_gT rfl rfl rfl ?_|refine st_gF rfl rfl rfl ?_|refine st_condT rfl ?_|refine st_condF rfl ?_|(refine st_condS rfl ?_ ?_ <;> intro hg <;> (try simp only[dcT,dcF,bnT,bnF] at hg))|refine st_nil ?_|refine st_tN ?_|refine st_seq ?_|refine st_block ?_|refine st_skip ?_|refine st_exit ?_|refine st_ret ?_|refine st_tE ?_|refine st_tR ?_|refine st_bN ?_|refine st_bR ?_|refine st_bH ?_)
      all_goals try (exfalso;omega)
      simp (disch:=omega) only[AEnd,Tryz.results41,aresK,fin,go_sem,implies_true,true_and,and_true,List.reverse_cons,List.reverse_nil]
      exact ⟨hat,hlp,.inl hf⟩
    as_aux_lemma =>
     have hr2:=hgt ⟨⟨ws,js⟩,m,true⟩ (by rw [hst];rw [if_pos hl])
     have B1:=And.intro f_shop (And.intro f_worker (And.intro f_job (And.intro f_end hi0)))
     repeat' (first|refine st_seq_reg rfl (by first|(simp only[go_sem,strs_len,length_map,B0,B1];rfl)|rfl) (by first|(simp only[go_sem,strs_len,length_map,B0,B1];rfl)|rfl) ?_|refine st_reg rfl (by first|(simp only[go_sem,strs_len,length_map,B0,B1];rfl)|rfl) (by first|(simp only[go_sem,strs_len,length_map,B0,B1];rfl)|rfl) ?_|refine st_op ?_|refine st_det rfl (by simp (disch:=omega) only[go_sem,wr_i64,strs_len,length_map,B0,B1];rfl) ?_|refine st_store (by simp (disch:=omega) only[go_sem,wr_i64,strs_len,length_map,B0,B1];rfl) ?_|(refine st_pureGE (by first|(simp (disch:=omega) only[go_sem,strs_len,length_map,B0,B1];rfl)|rfl) rfl (k87) (by exact hgl) (by first|(simp only[go_sem,strs_len,length_map,B0,B1];rfl)|rfl) (by intro n;first|(simp (disch:=omega) only[go_sem];rfl)|rfl) ?_;intro n hn)|refine st_gT rfl rfl rfl ?_|refine st_gF rfl rfl rfl ?_|refine st_condT rfl ?_|refine st_condF rfl ?_|(refine st_condS rfl ?_ ?_ <;> intro hg <;> (try simp only[dcT,dcF,bnT,bnF] at hg))|refine st_nil ?_|refine st_tN ?_|refine st_seq ?_|refine st_block ?_|refine st_skip ?_|refine st_exit ?_|refine st_ret ?_|refine st_tE ?_|refine st_tR ?_|refine st_bN ?_|refine st_bR ?_|refine st_bH ?_)
     all_goals try (exfalso;omega)
     refine ⟨⟨i+1,v1,v2,_,_⟩,(by exact ⟨by show i+1≤nb;omega,hr2,hS1.to (fun _ _ _ _ _=>rfl) (by (try simp only[go_sem]);omega),hS2.to (fun _ _ _ _ _=>rfl) (by (try simp only[go_sem]);omega),hd,by show ws.length≤i+1;omega,by show js.length≤i+1;omega,hat,hlp,hgl,by (try simp only[go_sem]);omega⟩),(by show nb - (i+1) < nb - i;omega),(by repeat' (first|exact trivial|refine And.intro ?_ ?_|rfl|(simp (disch:=omega) only[go_sem,if_yes,if_no,if_no];rfl)|(simp (disch:=omega) only[go_sem,if_yes,if_no,if_no]))),(by repeat' (first|exact trivial|refine And.intro ?_ ?_|rfl|(simp (disch:=omega) only[go_sem,if_yes,if_no,if_no];rfl)|(simp (disch:=omega) only[go_sem,if_yes,if_no,if_no]))),rfl,HOld.refl _⟩
   rw [if_neg h_end] at hst
   have f_shop:(w=[115,104,111,112])=False:=eq_false h_shop
   have f_worker:(w=[119,111,114,107,101,114])=False:=eq_false h_worker
   have f_job:(w=[106,111,98])=False:=eq_false h_job
   have f_end:(w=[101,110,100])=False:=eq_false h_end
   as_aux_lemma =>
    have hf:=hfail (by rw [hst];skip)
    have B1:=And.intro f_shop (And.intro f_worker (And.intro f_job (And.intro f_end hi0)))
    repeat' (first|refine st_seq_reg rfl (by first|(simp only[go_sem,strs_len,length_map,B0,B1];rfl)|rfl) (by first|(simp only[go_sem,strs_len,length_map,B0,B1];rfl)|rfl) ?_|refine st_reg rfl (by first|(simp only[go_sem,strs_len,length_map,B0,B1];rfl)|rfl) (by first|(simp only[go_sem,strs_len,length_map,B0,B1];rfl)|rfl) ?_|refine st_op ?_|refine st_det rfl (by simp (disch:=omega) only[go_sem,wr_i64,strs_len,length_map,B0,B1];rfl) ?_|refine st_store (by simp (disch:=omega) only[go_sem,wr_i64,strs_len,length_map,B0,B1];rfl) ?_|(refine st_pureGE (by first|(simp (disch:=omega) only[go_sem,strs_len,length_map,B0,B1];rfl)|rfl) rfl (k87) (by exact hgl) (by first|(simp only[go_sem,strs_len,length_map,B0,B1];rfl)|rfl) (by intro n;first|(simp (disch:=omega) only[go_sem];rfl)|rfl) ?_;intro n hn)|refine st_gT rfl rfl rfl ?_|refine st_gF rfl rfl rfl ?_|refine st_condT rfl ?_|refine st_condF rfl ?_|(refine st_condS rfl ?_ ?_ <;> intro hg <;> (try simp only[dcT,dcF,bnT,bnF] at hg))|refine st_nil ?_|refine st_tN ?_|refine st_seq ?_|refine st_block ?_|refine st_skip ?_|refine st_exit ?_|refine st_ret ?_|refine st_tE ?_|refine st_tR ?_|refine st_bN ?_|refine st_bR ?_|refine st_bH ?_)
    all_goals try (exfalso;omega)
    simp (disch:=omega) only[AEnd,Tryz.results41,aresK,fin,go_sem,implies_true,true_and,and_true,List.reverse_cons,List.reverse_nil]
    exact ⟨hat,hlp,.inl hf⟩
end Go.Proofs.YtaijkalhkgjakaaGreatDoor
