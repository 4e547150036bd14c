/- Contracts of functions that the claim reaches: what each call gives, told in our own logic. Conditions: those of each theorem. -/
import Derived.Test.YtoafigpikgigaaaGreatDoorY13o
import Derived.Test.YtoafigpikgigaaaGreatDoorY13b
import Derived.Test.YtoafigpikgigaaaGreatDoorY13c
set_option linter.all false
set_option linter.unusedSimpArgs false
set_option linter.unusedVariables false
namespace Go.Proofs.YtoafigpikgigaaaGreatDoor
open Go.Av Go.Txt Go.Lib
attribute [local irreducible] thenA blockA awp awpOps awpD awp1
attribute [local go_sem_proc] Nat.reduceAdd Nat.reduceMul Nat.reduceEqDiff Nat.reduceBEq Nat.reduceLeDiff
attribute [local go_sem_proc ↓] reduceIte
attribute [local go_sem] if_yes if_no
set_option maxHeartbeats 16000000
set_option maxRecDepth 20000
theorem c13 (text:List UInt8) (hmax:(text.length:Int)≤9223372036854775807):PureG gT Tryz.prog 13 [.str text] (fun v=>v=rdV text):=by
 refine PureG.give Tryz.call13 fun h hgl hold=>?_
 by_cases h1:4000 < text.length
 ·have e:rdV text=badV 0 6:=by unfold rdV;rw [if_pos h1]
  refine ACalls.of tab mixed Tryz.call13 Tryz.func13 rfl (fi:=⟨189,[2,6,140],[81,107,140,145],none,[(18,[0,1,0,4,12,28,63,127,255],[(0,false),(1,true),(2,false),(3,false),(4,true),(5,false),(6,false),(7,false),(8,false)]),(20,[0,1,0,4,12,0,32,96,252,508,1023,2047,4095],[(0,false),(1,true),(2,false),(3,false),(4,true),(5,false),(6,false),(7,true),(8,false),(9,false),(10,false),(11,false),(12,false)]),(22,[0,1,0,4,12,0,32,96,252,0,512,1536,0,4096,12288,32256,0,65536,196608,0,524288,1572864,0,0,8388608,29360128,67108860,134217724,268435455,536870911,1073741823],[(0,false),(1,true),(2,false),(3,false),(4,true),(5,false),(6,false),(7,true),(8,false),(9,false),(10,false),(11,true),(12,false),(13,false),(14,true),(15,false),(16,false),(17,false),(18,true),(19,false),(20,false),(21,true),(22,false),(23,false),(24,false),(25,false),(26,false),(27,false),(28,false),(29,false),(30,false)]),(24,[0,1,3,0,8,24,63,0,255],[(0,false),(1,false),(2,true),(3,false),(4,true),(5,false),(6,false),(7,false),(8,false)])]⟩) rfl rfl (Nat.le_of_ble_eq_true rfl) (by decide) ?_
  unfold startA
  try simp only[go_sem]
  repeat' (first|refine st_seq_reg rfl (by first|(simp only[go_sem];rfl)|rfl) (by first|(simp only[go_sem];rfl)|rfl) ?_|refine st_op ?_|refine st_det rfl (by simp (disch:=omega) only[go_sem,wr_i64];rfl) ?_|refine st_loc rfl (by simp (disch:=omega) only[go_sem,wr_i64];rfl) ?_|refine st_store (by simp (disch:=omega) only[go_sem,wr_i64];rfl) ?_|(refine st_condS rfl ?_ ?_ <;> intro hg <;> (try simp only[dcT,dcF,bnT,bnF] at hg))|refine st_nil ?_|refine st_tN ?_|refine st_seq ?_|refine st_skip ?_|refine st_ret ?_|refine st_tR ?_)
  all_goals try (exfalso;omega)
  simp (disch:=omega) only[AEnd,Tryz.results13,aresK,fin,go_sem,implies_true,true_and,and_true,List.reverse_cons,List.reverse_nil]
  rw [e]
  exact .inl ⟨_,bad_le,rfl⟩
 have k36:Pure Tryz.prog 41 [.str text,.int .u8 10] (fun v=>v=.lst 1 (strs (splitL 10 text))):=c41 text 10 (by omega)
 obtain ⟨rows,hr⟩:∃ rows,rows=splitL 10 text:=⟨_,rfl⟩
 rw [← hr] at k36
 have hrl:rows.length≤4001:=by rw [hr];have:=splitL_len 10 text;omega
 have hr1:1≤rows.length:=by rw [hr];exact List.length_pos_iff.2 (splitL_ne _ _)
 have hsub:∀ x ∈ rows,x.length≤4000:=fun x hx=>Nat.le_trans (splitL_sub (by rw [← hr];exact hx)) (by omega)
 refine ACalls.ofS tab Tryz.call13 Tryz.func13 rfl (fi:=⟨189,[2,6,140],[81,107,140,145],none,[(18,[0,1,0,4,12,28,63,127,255],[(0,false),(1,true),(2,false),(3,false),(4,true),(5,false),(6,false),(7,false),(8,false)]),(20,[0,1,0,4,12,0,32,96,252,508,1023,2047,4095],[(0,false),(1,true),(2,false),(3,false),(4,true),(5,false),(6,false),(7,true),(8,false),(9,false),(10,false),(11,false),(12,false)]),(22,[0,1,0,4,12,0,32,96,252,0,512,1536,0,4096,12288,32256,0,65536,196608,0,524288,1572864,0,0,8388608,29360128,67108860,134217724,268435455,536870911,1073741823],[(0,false),(1,true),(2,false),(3,false),(4,true),(5,false),(6,false),(7,true),(8,false),(9,false),(10,false),(11,true),(12,false),(13,false),(14,true),(15,false),(16,false),(17,false),(18,true),(19,false),(20,false),(21,true),(22,false),(23,false),(24,false),(25,false),(26,false),(27,false),(28,false),(29,false),(30,false)]),(24,[0,1,3,0,8,24,63,0,255],[(0,false),(1,false),(2,true),(3,false),(4,true),(5,false),(6,false),(7,false),(8,false)])]⟩) rfl rfl (Nat.le_of_ble_eq_true rfl) ?_
 unfold startA
 try simp only[go_sem]
 refine asem_seq (fi:=⟨189,[2,6,140],[81,107,140,145],none,[(18,[0,1,0,4,12,28,63,127,255],[(0,false),(1,true),(2,false),(3,false),(4,true),(5,false),(6,false),(7,false),(8,false)]),(20,[0,1,0,4,12,0,32,96,252,508,1023,2047,4095],[(0,false),(1,true),(2,false),(3,false),(4,true),(5,false),(6,false),(7,true),(8,false),(9,false),(10,false),(11,false),(12,false)]),(22,[0,1,0,4,12,0,32,96,252,0,512,1536,0,4096,12288,32256,0,65536,196608,0,524288,1572864,0,0,8388608,29360128,67108860,134217724,268435455,536870911,1073741823],[(0,false),(1,true),(2,false),(3,false),(4,true),(5,false),(6,false),(7,true),(8,false),(9,false),(10,false),(11,true),(12,false),(13,false),(14,true),(15,false),(16,false),(17,false),(18,true),(19,false),(20,false),(21,true),(22,false),(23,false),(24,false),(25,false),(26,false),(27,false),(28,false),(29,false),(30,false)]),(24,[0,1,3,0,8,24,63,0,255],[(0,false),(1,false),(2,true),(3,false),(4,true),(5,false),(6,false),(7,false),(8,false)])]⟩) tab mixed (by decide) ?_
 repeat' (first|refine st_reg rfl (by first|(simp only[go_sem];rfl)|rfl) (by first|(simp only[go_sem];rfl)|rfl) ?_|refine st_op ?_|refine st_det rfl (by simp (disch:=omega) only[go_sem,wr_i64];rfl) ?_|refine st_loc rfl (by simp (disch:=omega) only[go_sem,wr_i64];rfl) ?_|refine st_nil ?_|refine st_tN ?_)
 refine asem_seq (fi:=⟨189,[2,6,140],[81,107,140,145],none,[(18,[0,1,0,4,12,28,63,127,255],[(0,false),(1,true),(2,false),(3,false),(4,true),(5,false),(6,false),(7,false),(8,false)]),(20,[0,1,0,4,12,0,32,96,252,508,1023,2047,4095],[(0,false),(1,true),(2,false),(3,false),(4,true),(5,false),(6,false),(7,true),(8,false),(9,false),(10,false),(11,false),(12,false)]),(22,[0,1,0,4,12,0,32,96,252,0,512,1536,0,4096,12288,32256,0,65536,196608,0,524288,1572864,0,0,8388608,29360128,67108860,134217724,268435455,536870911,1073741823],[(0,false),(1,true),(2,false),(3,false),(4,true),(5,false),(6,false),(7,true),(8,false),(9,false),(10,false),(11,true),(12,false),(13,false),(14,true),(15,false),(16,false),(17,false),(18,true),(19,false),(20,false),(21,true),(22,false),(23,false),(24,false),(25,false),(26,false),(27,false),(28,false),(29,false),(30,false)]),(24,[0,1,3,0,8,24,63,0,255],[(0,false),(1,false),(2,true),(3,false),(4,true),(5,false),(6,false),(7,false),(8,false)])]⟩) tab mixed (by decide) ?_
 repeat' (first|refine st_seq_reg rfl (by first|(simp only[go_sem];rfl)|rfl) (by first|(simp only[go_sem];rfl)|rfl) ?_|refine st_op ?_|refine st_det rfl (by simp (disch:=omega) only[go_sem,wr_i64];rfl) ?_|refine st_store (by simp (disch:=omega) only[go_sem,wr_i64];rfl) ?_|(refine st_condS rfl ?_ ?_ <;> intro hg <;> (try simp only[dcT,dcF,bnT,bnF] at hg))|refine st_nil ?_|refine st_tN ?_|refine st_skip ?_|refine st_ret ?_|refine st_tR ?_)
 all_goals try (exfalso;omega)
 refine asem_seq (fi:=⟨189,[2,6,140],[81,107,140,145],none,[(18,[0,1,0,4,12,28,63,127,255],[(0,false),(1,true),(2,false),(3,false),(4,true),(5,false),(6,false),(7,false),(8,false)]),(20,[0,1,0,4,12,0,32,96,252,508,1023,2047,4095],[(0,false),(1,true),(2,false),(3,false),(4,true),(5,false),(6,false),(7,true),(8,false),(9,false),(10,false),(11,false),(12,false)]),(22,[0,1,0,4,12,0,32,96,252,0,512,1536,0,4096,12288,32256,0,65536,196608,0,524288,1572864,0,0,8388608,29360128,67108860,134217724,268435455,536870911,1073741823],[(0,false),(1,true),(2,false),(3,false),(4,true),(5,false),(6,false),(7,true),(8,false),(9,false),(10,false),(11,true),(12,false),(13,false),(14,true),(15,false),(16,false),(17,false),(18,true),(19,false),(20,false),(21,true),(22,false),(23,false),(24,false),(25,false),(26,false),(27,false),(28,false),(29,false),(30,false)]),(24,[0,1,3,0,8,24,63,0,255],[(0,false),(1,false),(2,true),(3,false),(4,true),(5,false),(6,false),(7,false),(8,false)])]⟩) tab mixed (by decide) ?_
 repeat' (first|refine st_reg rfl (by first|(simp only[go_sem];rfl)|rfl) (by first|(simp only[go_sem];rfl)|rfl) ?_|refine st_op ?_|refine st_det rfl (by simp (disch:=omega) only[go_sem,wr_i64];rfl) ?_|(refine st_pureE (by first|(simp (disch:=omega) only[go_sem];rfl)|rfl) rfl (k36) (by first|(simp only[go_sem];rfl)|rfl) (by intro n;first|(simp (disch:=omega) only[go_sem];rfl)|rfl) ?_;intro n hn)|refine st_nil ?_|refine st_tN ?_)
 refine asem_seq (fi:=⟨189,[2,6,140],[81,107,140,145],none,[(18,[0,1,0,4,12,28,63,127,255],[(0,false),(1,true),(2,false),(3,false),(4,true),(5,false),(6,false),(7,false),(8,false)]),(20,[0,1,0,4,12,0,32,96,252,508,1023,2047,4095],[(0,false),(1,true),(2,false),(3,false),(4,true),(5,false),(6,false),(7,true),(8,false),(9,false),(10,false),(11,false),(12,false)]),(22,[0,1,0,4,12,0,32,96,252,0,512,1536,0,4096,12288,32256,0,65536,196608,0,524288,1572864,0,0,8388608,29360128,67108860,134217724,268435455,536870911,1073741823],[(0,false),(1,true),(2,false),(3,false),(4,true),(5,false),(6,false),(7,true),(8,false),(9,false),(10,false),(11,true),(12,false),(13,false),(14,true),(15,false),(16,false),(17,false),(18,true),(19,false),(20,false),(21,true),(22,false),(23,false),(24,false),(25,false),(26,false),(27,false),(28,false),(29,false),(30,false)]),(24,[0,1,3,0,8,24,63,0,255],[(0,false),(1,false),(2,true),(3,false),(4,true),(5,false),(6,false),(7,false),(8,false)])]⟩) tab mixed (by decide) ?_
 repeat' (first|refine st_reg rfl (by first|(simp only[go_sem];rfl)|rfl) (by first|(simp only[go_sem];rfl)|rfl) ?_|refine st_op ?_|refine st_loc rfl (by simp (disch:=omega) only[go_sem,wr_i64];rfl) ?_|refine st_nil ?_|refine st_tN ?_)
 refine asem_seq (fi:=⟨189,[2,6,140],[81,107,140,145],none,[(18,[0,1,0,4,12,28,63,127,255],[(0,false),(1,true),(2,false),(3,false),(4,true),(5,false),(6,false),(7,false),(8,false)]),(20,[0,1,0,4,12,0,32,96,252,508,1023,2047,4095],[(0,false),(1,true),(2,false),(3,false),(4,true),(5,false),(6,false),(7,true),(8,false),(9,false),(10,false),(11,false),(12,false)]),(22,[0,1,0,4,12,0,32,96,252,0,512,1536,0,4096,12288,32256,0,65536,196608,0,524288,1572864,0,0,8388608,29360128,67108860,134217724,268435455,536870911,1073741823],[(0,false),(1,true),(2,false),(3,false),(4,true),(5,false),(6,false),(7,true),(8,false),(9,false),(10,false),(11,true),(12,false),(13,false),(14,true),(15,false),(16,false),(17,false),(18,true),(19,false),(20,false),(21,true),(22,false),(23,false),(24,false),(25,false),(26,false),(27,false),(28,false),(29,false),(30,false)]),(24,[0,1,3,0,8,24,63,0,255],[(0,false),(1,false),(2,true),(3,false),(4,true),(5,false),(6,false),(7,false),(8,false)])]⟩) tab mixed (by decide) ?_
 repeat' (first|refine st_reg rfl (by first|(simp only[go_sem];rfl)|rfl) (by first|(simp only[go_sem];rfl)|rfl) ?_|refine st_op ?_|refine st_det rfl (by simp (disch:=omega) only[go_sem,wr_i64];rfl) ?_|refine st_nil ?_|refine st_tN ?_)
 refine asem_seq (fi:=⟨189,[2,6,140],[81,107,140,145],none,[(18,[0,1,0,4,12,28,63,127,255],[(0,false),(1,true),(2,false),(3,false),(4,true),(5,false),(6,false),(7,false),(8,false)]),(20,[0,1,0,4,12,0,32,96,252,508,1023,2047,4095],[(0,false),(1,true),(2,false),(3,false),(4,true),(5,false),(6,false),(7,true),(8,false),(9,false),(10,false),(11,false),(12,false)]),(22,[0,1,0,4,12,0,32,96,252,0,512,1536,0,4096,12288,32256,0,65536,196608,0,524288,1572864,0,0,8388608,29360128,67108860,134217724,268435455,536870911,1073741823],[(0,false),(1,true),(2,false),(3,false),(4,true),(5,false),(6,false),(7,true),(8,false),(9,false),(10,false),(11,true),(12,false),(13,false),(14,true),(15,false),(16,false),(17,false),(18,true),(19,false),(20,false),(21,true),(22,false),(23,false),(24,false),(25,false),(26,false),(27,false),(28,false),(29,false),(30,false)]),(24,[0,1,3,0,8,24,63,0,255],[(0,false),(1,false),(2,true),(3,false),(4,true),(5,false),(6,false),(7,false),(8,false)])]⟩) tab mixed (by decide) ?_
 repeat' (first|refine st_seq_reg rfl (by first|(simp only[go_sem];rfl)|rfl) (by first|(simp only[go_sem];rfl)|rfl) ?_|refine st_op ?_|refine st_det rfl (by simp (disch:=omega) only[go_sem,wr_i64];rfl) ?_|refine st_nil ?_|refine st_block ?_)
 obtain ⟨nb,hnb⟩:∃ nb,nb=rows.length - 1:=⟨_,rfl⟩
 obtain ⟨body,hbody⟩:∃ body,body=rows.take nb:=⟨_,rfl⟩
 have hbl:body.length=nb:=by rw [hbody,List.length_take];omega
 have eN:((rows.length:Nat):Int) - 1=(nb:Nat):=by omega
 have hbs:∀ x ∈ body,x.length≤4000:=fun x hx=>hsub x (List.mem_of_mem_take (hbody ▸ hx))
 have hrd:rdV text=match runR 0 st0 body with
  | .inl k=>badV k 1
  | .inr st =>
   if st.e=false then badV rows.length 1
   else if rows.getD nb [] ≠ [] then badV rows.length 1
   else if chkE st.t ≠ 0 then badV 0 (chkE st.t)
   else .tup [st.t.av,.int .i64 0,.int .i64 0]:=by
  unfold rdV;rw [if_neg h1,← hr,← hnb,← hbody];cases runR 0 st0 body <;> rfl
 refine st_loopH (α:=RdS) tab mixed [2,6] [_,_] (by repeat (first|exact trivial|refine ⟨rfl,?_⟩)) [] [] (by repeat (first|exact trivial|refine ⟨rfl,?_⟩)) (rV 8) [(2,_),(3,_),(4,_),(5,_),(6,_)] (fun a=>[[.nils,.nils,.nils,.int .i64 0],rBx a]) [] (fun a=>a.g) (rInv h body nb) (fun a=>nb - a.i) (by decide) ⟨0,.nils,.nils,.nils,st0,_⟩ (by exact ⟨Nat.zero_le _,rfl,.inl ⟨rfl,rfl⟩,.inl ⟨rfl,rfl⟩,.inl ⟨rfl,rfl⟩,(by intro b m m' q;cases q),(by intro b m m' q;cases q),(by intro b m m' q;cases q),Nat.zero_le _,Nat.zero_le _,Nat.zero_le _,fun _ _=>rfl,rfl,hgl,by (try simp only[go_sem]);omega⟩) (by (try simp only[go_sem]);repeat' (first|exact trivial|refine And.intro ?_ ?_|rfl|(simp (disch:=omega) only[go_sem,if_yes,if_no,if_no];rfl)|(simp (disch:=omega) only[go_sem,if_yes,if_no,if_no]))) (by (try simp only[go_sem]);repeat' (first|exact trivial|refine And.intro ?_ ?_|rfl|(simp (disch:=omega) only[go_sem,if_yes,if_no,if_no];rfl)|(simp (disch:=omega) only[go_sem,if_yes,if_no,if_no]))) (HOld.refl _) ?_
 rintro ⟨i,v1,v2,v3,⟨⟨rs,ss,gs,sp⟩,e⟩,g⟩ c ha hc
 by_cases hil:i < nb
 case pos =>
  have hrun:=ha.2.1
  dsimp only at hrun
  rw [run_drop (by omega)] at hrun
  cases hst:stepR i ⟨⟨rs,ss,gs,sp⟩,e⟩ (body.getD i []) with
  | some st' =>
   rw [hst] at hrun
   exact rd_okR h text rows body nb hbody hnb hr1 hrl hbl hbs _ (by omega) i v1 v2 v3 rs ss gs sp e g c ha hc hil st' hst hrun _ _ rfl
  | none =>
   rw [hst] at hrun
   have hf:∃ v',VLe (.tup [.agg [.nils,.nils,.nils,.int .i64 0],.int .i64 ((i:Int)+1),.int .i64 1]) v'∧v'=rdV text:=⟨_,bad_le (k:=i+1) (e:=1),by rw [hrd,hrun]⟩
   by_cases hw:rowP 7 (body.getD i [])=none ∨ e=true ∨ i=0 ∨ ∃ w l,rowP 7 (body.getD i [])=some (w,l)∧w=wTown
   ·exact rd_b1R h text rows body nb hbody hnb hr1 hrl hbl hbs _ (by omega) i v1 v2 v3 rs ss gs sp e g c ha hc hil hst hw hf _ _ rfl (fun s q=>q_ret q)
   ·cases hp:rowP 7 (body.getD i []) with
    | none=>exact absurd (.inl hp) hw
    | some wl =>
     obtain ⟨w,l⟩:=wl
     exact rd_b2R h text rows body nb hbody hnb hr1 hrl hbl hbs _ (by omega) i v1 v2 v3 rs ss gs sp e g c ha hc hil hst w l hp (by cases e;rfl;exact absurd (.inr (.inl rfl)) hw) (fun q=>hw (.inr (.inr (.inl q)))) (fun q=>hw (.inr (.inr (.inr ⟨w,l,hp,q⟩)))) hf _ _ rfl (fun s q=>q_ret q)
 obtain ⟨hi,hrun,hS1,hS2,hS3,hd12,hd13,hd23,hwl,hjl,hgl3,hat,hlp,hgl,hck⟩:=ha
 dsimp only at hi hrun hS1 hS2 hS3 hd12 hd13 hd23 hwl hjl hgl3 hat hlp hgl hck hc
 simp only[go_sem]
 have hn1:=hS1.noL
 have hc1:=hS1.cell
 have hn2:=hS2.noL
 have hc2:=hS2.cell
 have hn3:=hS3.noL
 have hc3:=hS3.cell
 obtain rfl:i=nb:=by omega
 rw [← hbl,List.drop_length] at hrun
 have hrd2:=hrd
 rw [hrun] at hrd2
 simp only[runR] at hrd2
 repeat' (first|refine st_seq_reg rfl (by first|(simp only[go_sem,sL,eN];rfl)|rfl) (by first|(simp only[go_sem,sL,eN];rfl)|rfl) ?_|refine st_op ?_|refine st_det rfl (by simp (disch:=omega) only[go_sem,wr_i64,sL,eN];rfl) ?_|(refine st_condS rfl ?_ ?_ <;> intro hg <;> (try simp only[dcT,dcF,bnT,bnF] at hg))|refine st_nil ?_|refine st_tN ?_|refine st_seq ?_|refine st_block ?_|refine st_skip ?_|refine st_exit ?_|refine st_tE ?_|refine st_bH ?_)
 all_goals try (exfalso;omega)
 have hlg:(strs rows).getD i []=[.str (rows.getD i [])]:=strs_getD (by omega)
 obtain ⟨la,hla⟩:∃ la,la=rows.getD i []:=⟨_,rfl⟩
 rw [← hla] at hrd2 hlg
 have hbadk:∀ {k:Nat} {e:Int},rdV text=badV k e→(∃ v',VLe (.tup [.agg [.nils,.nils,.nils,.int .i64 0],.int .i64 (k:Nat),.int .i64 e]) v'∧v'=rdV text):=fun q=>⟨_,bad_le,q.symm⟩
 cases e with
 | false =>
  rw [if_pos rfl] at hrd2
  refine asem_seq (fi:=⟨189,[2,6,140],[81,107,140,145],none,[(18,[0,1,0,4,12,28,63,127,255],[(0,false),(1,true),(2,false),(3,false),(4,true),(5,false),(6,false),(7,false),(8,false)]),(20,[0,1,0,4,12,0,32,96,252,508,1023,2047,4095],[(0,false),(1,true),(2,false),(3,false),(4,true),(5,false),(6,false),(7,true),(8,false),(9,false),(10,false),(11,false),(12,false)]),(22,[0,1,0,4,12,0,32,96,252,0,512,1536,0,4096,12288,32256,0,65536,196608,0,524288,1572864,0,0,8388608,29360128,67108860,134217724,268435455,536870911,1073741823],[(0,false),(1,true),(2,false),(3,false),(4,true),(5,false),(6,false),(7,true),(8,false),(9,false),(10,false),(11,true),(12,false),(13,false),(14,true),(15,false),(16,false),(17,false),(18,true),(19,false),(20,false),(21,true),(22,false),(23,false),(24,false),(25,false),(26,false),(27,false),(28,false),(29,false),(30,false)]),(24,[0,1,3,0,8,24,63,0,255],[(0,false),(1,false),(2,true),(3,false),(4,true),(5,false),(6,false),(7,false),(8,false)])]⟩) tab mixed (by decide) ?_
  repeat' (first|refine st_seq_reg rfl (by first|(simp only[go_sem,sL,eN];rfl)|rfl) (by first|(simp only[go_sem,sL,eN];rfl)|rfl) ?_|refine st_op ?_|refine st_det rfl (by simp (disch:=omega) only[go_sem,wr_i64,sL,eN];rfl) ?_|refine st_store (by simp (disch:=omega) only[go_sem,wr_i64,sL,eN];rfl) ?_|refine st_gF rfl rfl rfl ?_|refine st_condT rfl ?_|refine st_nil ?_|refine st_ret ?_|refine st_tR ?_)
  simp (disch:=omega) only[AEnd,Tryz.results13,aresK,fin,go_sem,implies_true,true_and,and_true,List.reverse_cons,List.reverse_nil]
  exact ⟨hat,hlp,.inl (hbadk hrd2)⟩
 | true =>
  rw [if_neg (by simp)] at hrd2
  by_cases hl0:la=[]
  case neg =>
   rw [if_pos hl0] at hrd2
   refine asem_seq (fi:=⟨189,[2,6,140],[81,107,140,145],none,[(18,[0,1,0,4,12,28,63,127,255],[(0,false),(1,true),(2,false),(3,false),(4,true),(5,false),(6,false),(7,false),(8,false)]),(20,[0,1,0,4,12,0,32,96,252,508,1023,2047,4095],[(0,false),(1,true),(2,false),(3,false),(4,true),(5,false),(6,false),(7,true),(8,false),(9,false),(10,false),(11,false),(12,false)]),(22,[0,1,0,4,12,0,32,96,252,0,512,1536,0,4096,12288,32256,0,65536,196608,0,524288,1572864,0,0,8388608,29360128,67108860,134217724,268435455,536870911,1073741823],[(0,false),(1,true),(2,false),(3,false),(4,true),(5,false),(6,false),(7,true),(8,false),(9,false),(10,false),(11,true),(12,false),(13,false),(14,true),(15,false),(16,false),(17,false),(18,true),(19,false),(20,false),(21,true),(22,false),(23,false),(24,false),(25,false),(26,false),(27,false),(28,false),(29,false),(30,false)]),(24,[0,1,3,0,8,24,63,0,255],[(0,false),(1,false),(2,true),(3,false),(4,true),(5,false),(6,false),(7,false),(8,false)])]⟩) tab mixed (by decide) ?_
   repeat' (first|refine st_seq_reg rfl (by first|(simp only[go_sem,sL,eN,hlg,hl0];rfl)|rfl) (by first|(simp only[go_sem,sL,eN,hlg,hl0];rfl)|rfl) ?_|refine st_op ?_|refine st_det rfl (by simp (disch:=omega) only[go_sem,wr_i64,sL,eN,hlg,hl0];rfl) ?_|refine st_store (by simp (disch:=omega) only[go_sem,wr_i64,sL,eN,hlg,hl0];rfl) ?_|refine st_gT rfl rfl rfl ?_|refine st_condT rfl ?_|refine st_nil ?_|refine st_ret ?_|refine st_tR ?_)
   all_goals try (exfalso;omega)
   simp (disch:=omega) only[AEnd,Tryz.results13,aresK,fin,go_sem,implies_true,true_and,and_true,List.reverse_cons,List.reverse_nil]
   exact ⟨hat,hlp,.inl (hbadk hrd2)⟩
  rw [if_neg (fun q=>q hl0)] at hrd2
  refine asem_seq (fi:=⟨189,[2,6,140],[81,107,140,145],none,[(18,[0,1,0,4,12,28,63,127,255],[(0,false),(1,true),(2,false),(3,false),(4,true),(5,false),(6,false),(7,false),(8,false)]),(20,[0,1,0,4,12,0,32,96,252,508,1023,2047,4095],[(0,false),(1,true),(2,false),(3,false),(4,true),(5,false),(6,false),(7,true),(8,false),(9,false),(10,false),(11,false),(12,false)]),(22,[0,1,0,4,12,0,32,96,252,0,512,1536,0,4096,12288,32256,0,65536,196608,0,524288,1572864,0,0,8388608,29360128,67108860,134217724,268435455,536870911,1073741823],[(0,false),(1,true),(2,false),(3,false),(4,true),(5,false),(6,false),(7,true),(8,false),(9,false),(10,false),(11,true),(12,false),(13,false),(14,true),(15,false),(16,false),(17,false),(18,true),(19,false),(20,false),(21,true),(22,false),(23,false),(24,false),(25,false),(26,false),(27,false),(28,false),(29,false),(30,false)]),(24,[0,1,3,0,8,24,63,0,255],[(0,false),(1,false),(2,true),(3,false),(4,true),(5,false),(6,false),(7,false),(8,false)])]⟩) tab mixed (by decide) ?_
  repeat' (first|refine st_seq_reg rfl (by first|(simp only[go_sem,sL,eN,hlg,hl0];rfl)|rfl) (by first|(simp only[go_sem,sL,eN,hlg,hl0];rfl)|rfl) ?_|refine st_op ?_|refine st_det rfl (by simp (disch:=omega) only[go_sem,wr_i64,sL,eN,hlg,hl0];rfl) ?_|refine st_gT rfl rfl rfl ?_|refine st_condF rfl ?_|refine st_nil ?_|refine st_tN ?_|refine st_skip ?_)
  all_goals try (exfalso;omega)
  refine ASem.cutWg (n,6) [] [v2,v3,.int .i64 sp] v1 1 (rs.map iv) (by simp [upd]) (hS1.to (fun _ _ _ _ _=>rfl) (by (try simp only[go_sem]);omega)) (fun b k q=>⟨rfl,by simp only[frzs,frz,hd12.frz hS2 _ _ _ q,hd13.frz hS3 _ _ _ q]⟩) fun g1 hk1 hc1a hl1 hg1=>?_
  have hS2':SlA h.clk g1 v2 2 (ss.map Sx.row):=hS2.to (fun b1 k q _ _=>hk1 b1 fun m' q'=>hd12 b1 m' k q' q) (by rw [hc1a];(try simp only[go_sem]);omega)
  have hS3':SlA h.clk g1 v3 7 (gs.map Gp.row):=hS3.to (fun b1 k q _ _=>hk1 b1 fun m' q'=>hd13 b1 m' k q' q) (by rw [hc1a];(try simp only[go_sem]);omega)
  refine ASem.cutWg (n,6) [.lst 1 (rs.map iv)] [v3,.int .i64 sp] v2 2 (ss.map Sx.row) (by simp [upd]) hS2' (fun b k q=>⟨by simp only[frzs,frz,frzss_iv],by simp only[frzs,frz,hd23.frz hS3' _ _ _ q]⟩) fun g2 hk2 hc2a hl2 hg2=>?_
  have hS3'':SlA h.clk g2 v3 7 (gs.map Gp.row):=hS3'.to (fun b1 k q _ _=>hk2 b1 fun m' q'=>hd23 b1 m' k q' q) (by rw [hc2a];exact Nat.le_refl _)
  refine ASem.cutWg (n,6) [.lst 1 (rs.map iv),.lst 2 (ss.map Sx.row)] [.int .i64 sp] v3 7 (gs.map Gp.row) (by simp [upd]) hS3'' (fun b k q=>⟨by simp only[frzs,frz,frzss_iv,frzss_sx],by simp only[frzs,frz]⟩) fun g3 hk3 hc3a hl3 hg3=>?_
  have hc3:g3.clk=c+1+1:=by rw [hc3a,hc2a,hc1a];rfl
  have hat2:∀ b':Bid,b'.1 < h.clk→g3.at_ b'=h.at_ b':=fun b' hb'=>by
   rw [hk3 b' fun m' q=>by have:=(hS3.lt q).1;omega,hk2 b' fun m' q=>by have:=(hS2.lt q).1;omega,hk1 b' fun m' q=>by have:=(hS1.lt q).1;omega]
   exact hat b' hb'
  have hlp2:g3.lp=h.lp:=by rw [hl3,hl2,hl1];exact hlp
  have k30:=c15 ⟨rs,ss,gs,sp⟩
  by_cases hE:chkE ⟨rs,ss,gs,sp⟩=0
  case neg =>
   rw [if_pos hE] at hrd2
   refine asem_seq (fi:=⟨189,[2,6,140],[81,107,140,145],none,[(18,[0,1,0,4,12,28,63,127,255],[(0,false),(1,true),(2,false),(3,false),(4,true),(5,false),(6,false),(7,false),(8,false)]),(20,[0,1,0,4,12,0,32,96,252,508,1023,2047,4095],[(0,false),(1,true),(2,false),(3,false),(4,true),(5,false),(6,false),(7,true),(8,false),(9,false),(10,false),(11,false),(12,false)]),(22,[0,1,0,4,12,0,32,96,252,0,512,1536,0,4096,12288,32256,0,65536,196608,0,524288,1572864,0,0,8388608,29360128,67108860,134217724,268435455,536870911,1073741823],[(0,false),(1,true),(2,false),(3,false),(4,true),(5,false),(6,false),(7,true),(8,false),(9,false),(10,false),(11,true),(12,false),(13,false),(14,true),(15,false),(16,false),(17,false),(18,true),(19,false),(20,false),(21,true),(22,false),(23,false),(24,false),(25,false),(26,false),(27,false),(28,false),(29,false),(30,false)]),(24,[0,1,3,0,8,24,63,0,255],[(0,false),(1,false),(2,true),(3,false),(4,true),(5,false),(6,false),(7,false),(8,false)])]⟩) tab mixed (by decide) ?_
   repeat' (first|refine st_seq_reg rfl (by first|(simp only[go_sem,hc3];rfl)|rfl) (by first|(simp only[go_sem,hc3];rfl)|rfl) ?_|refine st_op ?_|refine st_det rfl (by simp (disch:=omega) only[go_sem,wr_i64,hc3];rfl) ?_|refine st_store (by simp (disch:=omega) only[go_sem,wr_i64,hc3];rfl) ?_|(refine st_pureE (by first|(simp (disch:=omega) only[go_sem,hc3];rfl)|rfl) rfl (k30) (by first|(simp only[go_sem,hc3];rfl)|rfl) (by intro n;first|(simp (disch:=omega) only[go_sem];rfl)|rfl) ?_;intro n hn)|(refine st_condS rfl ?_ ?_ <;> intro hg <;> (try simp only[dcT,dcF,bnT,bnF] at hg))|refine st_nil ?_|refine st_tN ?_|refine st_skip ?_|refine st_ret ?_|refine st_tR ?_)
   all_goals try (exfalso;omega)
   simp (disch:=omega) only[AEnd,Tryz.results13,aresK,fin,go_sem,implies_true,true_and,and_true,List.reverse_cons,List.reverse_nil]
   exact ⟨hat2,hlp2,.inl (hbadk hrd2)⟩
  rw [if_neg (fun q=>q hE)] at hrd2
  refine asem_seq (fi:=⟨189,[2,6,140],[81,107,140,145],none,[(18,[0,1,0,4,12,28,63,127,255],[(0,false),(1,true),(2,false),(3,false),(4,true),(5,false),(6,false),(7,false),(8,false)]),(20,[0,1,0,4,12,0,32,96,252,508,1023,2047,4095],[(0,false),(1,true),(2,false),(3,false),(4,true),(5,false),(6,false),(7,true),(8,false),(9,false),(10,false),(11,false),(12,false)]),(22,[0,1,0,4,12,0,32,96,252,0,512,1536,0,4096,12288,32256,0,65536,196608,0,524288,1572864,0,0,8388608,29360128,67108860,134217724,268435455,536870911,1073741823],[(0,false),(1,true),(2,false),(3,false),(4,true),(5,false),(6,false),(7,true),(8,false),(9,false),(10,false),(11,true),(12,false),(13,false),(14,true),(15,false),(16,false),(17,false),(18,true),(19,false),(20,false),(21,true),(22,false),(23,false),(24,false),(25,false),(26,false),(27,false),(28,false),(29,false),(30,false)]),(24,[0,1,3,0,8,24,63,0,255],[(0,false),(1,false),(2,true),(3,false),(4,true),(5,false),(6,false),(7,false),(8,false)])]⟩) tab mixed (by decide) ?_
  repeat' (first|refine st_seq_reg rfl (by first|(simp only[go_sem,hc3];rfl)|rfl) (by first|(simp only[go_sem,hc3];rfl)|rfl) ?_|refine st_op ?_|refine st_det rfl (by simp (disch:=omega) only[go_sem,wr_i64,hc3];rfl) ?_|refine st_store (by simp (disch:=omega) only[go_sem,wr_i64,hc3];rfl) ?_|(refine st_pureE (by first|(simp (disch:=omega) only[go_sem,hc3];rfl)|rfl) rfl (k30) (by first|(simp only[go_sem,hc3];rfl)|rfl) (by intro n;first|(simp (disch:=omega) only[go_sem];rfl)|rfl) ?_;intro n hn)|(refine st_condS rfl ?_ ?_ <;> intro hg <;> (try simp only[dcT,dcF,bnT,bnF] at hg))|refine st_nil ?_|refine st_tN ?_|refine st_skip ?_|refine st_ret ?_|refine st_tR ?_)
  all_goals try (exfalso;omega)
  refine asem_seq (fi:=⟨189,[2,6,140],[81,107,140,145],none,[(18,[0,1,0,4,12,28,63,127,255],[(0,false),(1,true),(2,false),(3,false),(4,true),(5,false),(6,false),(7,false),(8,false)]),(20,[0,1,0,4,12,0,32,96,252,508,1023,2047,4095],[(0,false),(1,true),(2,false),(3,false),(4,true),(5,false),(6,false),(7,true),(8,false),(9,false),(10,false),(11,false),(12,false)]),(22,[0,1,0,4,12,0,32,96,252,0,512,1536,0,4096,12288,32256,0,65536,196608,0,524288,1572864,0,0,8388608,29360128,67108860,134217724,268435455,536870911,1073741823],[(0,false),(1,true),(2,false),(3,false),(4,true),(5,false),(6,false),(7,true),(8,false),(9,false),(10,false),(11,true),(12,false),(13,false),(14,true),(15,false),(16,false),(17,false),(18,true),(19,false),(20,false),(21,true),(22,false),(23,false),(24,false),(25,false),(26,false),(27,false),(28,false),(29,false),(30,false)]),(24,[0,1,3,0,8,24,63,0,255],[(0,false),(1,false),(2,true),(3,false),(4,true),(5,false),(6,false),(7,false),(8,false)])]⟩) tab mixed (by decide) ?_
  repeat' (first|refine st_reg rfl (by first|(simp only[go_sem,hc3];rfl)|rfl) (by first|(simp only[go_sem,hc3];rfl)|rfl) ?_|refine st_op ?_|refine st_det rfl (by simp (disch:=omega) only[go_sem,wr_i64,hc3];rfl) ?_|refine st_store (by simp (disch:=omega) only[go_sem,wr_i64,hc3];rfl) ?_|refine st_nil ?_|refine st_tN ?_)
  all_goals try (exfalso;omega)
  refine asem_awp (fi:=⟨189,[2,6,140],[81,107,140,145],none,[(18,[0,1,0,4,12,28,63,127,255],[(0,false),(1,true),(2,false),(3,false),(4,true),(5,false),(6,false),(7,false),(8,false)]),(20,[0,1,0,4,12,0,32,96,252,508,1023,2047,4095],[(0,false),(1,true),(2,false),(3,false),(4,true),(5,false),(6,false),(7,true),(8,false),(9,false),(10,false),(11,false),(12,false)]),(22,[0,1,0,4,12,0,32,96,252,0,512,1536,0,4096,12288,32256,0,65536,196608,0,524288,1572864,0,0,8388608,29360128,67108860,134217724,268435455,536870911,1073741823],[(0,false),(1,true),(2,false),(3,false),(4,true),(5,false),(6,false),(7,true),(8,false),(9,false),(10,false),(11,true),(12,false),(13,false),(14,true),(15,false),(16,false),(17,false),(18,true),(19,false),(20,false),(21,true),(22,false),(23,false),(24,false),(25,false),(26,false),(27,false),(28,false),(29,false),(30,false)]),(24,[0,1,3,0,8,24,63,0,255],[(0,false),(1,false),(2,true),(3,false),(4,true),(5,false),(6,false),(7,false),(8,false)])]⟩) tab mixed (by decide) ?_
  repeat' (first|refine st_ret ?_)
  simp (disch:=omega) only[AEnd,Tryz.results13,aresK,fin,go_sem,implies_true,true_and,and_true,List.reverse_cons,List.reverse_nil]
  exact ⟨hat2,hlp2,.inl ⟨_,VLe.refl _,hrd2.symm⟩⟩
end Go.Proofs.YtoafigpikgigaaaGreatDoor
