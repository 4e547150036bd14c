/- Contracts of functions that the claim reaches: what each call gives, told in our own logic. Conditions: those of each theorem. -/
import Derived.Test.YtoafigpikgigaaaGreatDoorY5a
import Derived.Test.YtoafigpikgigaaaGreatDoorW9
open List (length_map)
set_option linter.all false
set_option linter.unusedSimpArgs false
set_option linter.unusedVariables false
namespace Go.Proofs.YtoafigpikgigaaaGreatDoor
open Go.Av Go.Txt Go.Lib
attribute [local irreducible] thenA blockA awp awpOps awpD awp1
attribute [local go_sem_proc] Nat.reduceAdd Nat.reduceMul Nat.reduceEqDiff Nat.reduceBEq Nat.reduceLeDiff
attribute [local go_sem_proc ↓] reduceIte
attribute [local go_sem] if_yes if_no
set_option maxHeartbeats 16000000
set_option maxRecDepth 20000
theorem rd_b2R (h:AH) (text:List UInt8) (rows body:List (List UInt8)) (nb:Nat) (hbody:body=rows.take nb) (hnb:nb=rows.length - 1) (hr1:1≤rows.length) (hrl:rows.length≤4001) (hbl:body.length=nb) (hbs:∀ x ∈ body,x.length≤4000) (m:Nat) (hm:h.clk < m)
  (i:Nat) (v1 v2 v3:AV) (rs:List Int) (ss:List Sx) (gs:List Gp) (sp:Int) (e:Bool) (g:AH) (c:Nat) (ha:rInv h body nb ⟨i,v1,v2,v3,⟨⟨rs,ss,gs,sp⟩,e⟩,g⟩) (hc:g.clk≤c) (hil:i < nb) (hst:stepR i ⟨⟨rs,ss,gs,sp⟩,e⟩ (body.getD i [])=none) (w:List UInt8) (l:List Int) (hp:rowP 7 (body.getD i [])=some (w,l)) (he:e=false) (h_i:¬ i=0) (h_town:¬ w=wTown) (hf:∃ v',VLe (.tup [.agg [.nils,.nils,.nils,.int .i64 0],.int .i64 ((i:Int)+1),.int .i64 1]) v'∧v'=rdV text)
  (Q:Exit→AS→Prop) (LC:Code) (hLC:loopB Tryz.f13=some LC) (hQ:∀ s,AEnd tt Tryz.f13.results.toList (rEnd h text) .ret s→Q .ret s) :
  awp Tryz.prog tt ⟨189,[2,6,140],[81,107,140,145],none,[(18,[0,1,0,4,12,28,63,127,255],[(0,false),(1,true),(2,false),(3,false),(4,true),(5,false),(6,false),(7,false),(8,false)]),(20,[0,1,0,4,12,0,32,96,252,508,1023,2047,4095],[(0,false),(1,true),(2,false),(3,false),(4,true),(5,false),(6,false),(7,true),(8,false),(9,false),(10,false),(11,false),(12,false)]),(22,[0,1,0,4,12,0,32,96,252,0,512,1536,0,4096,12288,32256,0,65536,196608,0,524288,1572864,0,0,8388608,29360128,67108860,134217724,268435455,536870911,1073741823],[(0,false),(1,true),(2,false),(3,false),(4,true),(5,false),(6,false),(7,true),(8,false),(9,false),(10,false),(11,true),(12,false),(13,false),(14,true),(15,false),(16,false),(17,false),(18,true),(19,false),(20,false),(21,true),(22,false),(23,false),(24,false),(25,false),(26,false),(27,false),(28,false),(29,false),(30,false)]),(24,[0,1,3,0,8,24,63,0,255],[(0,false),(1,false),(2,true),(3,false),(4,true),(5,false),(6,false),(7,false),(8,false)])]⟩ LC (thenA (rNxt h body nb 8 [(2,.lptr (h.clk,2) 0),(3,.int .i64 0),(4,.int .i64 0),(5,.lst 1 (strs rows)),(6,.lptr (m,6) 0)] [(h.clk,2),(m,6)] (fun a=>[[.nils,.nils,.nils,.int .i64 0],rBx a]) i) Q) ⟨keep (rV 8 ⟨i,v1,v2,v3,⟨⟨rs,ss,gs,sp⟩,e⟩,g⟩ ++ [(2,.lptr (h.clk,2) 0),(3,.int .i64 0),(4,.int .i64 0),(5,.lst 1 (strs rows)),(6,.lptr (m,6) 0)]),keepB ([(h.clk,2),(m,6)].zip ((fun a=>[[.nils,.nils,.nils,.int .i64 0],rBx a]) ⟨i,v1,v2,v3,⟨⟨rs,ss,gs,sp⟩,e⟩,g⟩) ++ [].zip []),[],g.tick c⟩:=by
 obtain rfl:LC=_:=Option.some.inj (hLC.symm.trans (rfl:loopB Tryz.f13=some _))
 clear hLC
 obtain ⟨hi,hrun,hS1,hS2,hS3,hd12,hd13,hd23,hwl,hjl,hgl3,hat,hlp,hgl,hck⟩:=ha
 dsimp only at hi hrun hS1 hS2 hS3 hd12 hd13 hd23 hwl hjl hgl3 hat hlp hgl hck
 simp only[go_sem]
 have hn1:=hS1.noL
 have hc1:=hS1.cell
 have hn2:=hS2.noL
 have hc2:=hS2.cell
 have hn3:=hS3.noL
 have hc3:=hS3.cell
 have eN:((rows.length:Nat):Int) - 1=(nb:Nat):=by omega
 obtain ⟨row,hrow⟩:∃ row,row=body.getD i []:=⟨_,rfl⟩
 have hrl2:row.length≤4000:=hrow ▸ hbs _ (str_mem (by omega))
 have hrg:(strs rows).getD i []=[.str row]:=by rw [strs_getD (by omega),hrow,hbody];simp [List.getD_eq_getElem?_getD,List.getElem?_take,hil]
 have k37:=c42 row (by omega)
 have hle2:alen (tt 23) v2=some (ss.length:Int):=by simpa using SlA.alen (ti:=tt 23) hS2 rfl
 have hle3:alen (tt 24) v3=some (gs.length:Int):=by simpa using SlA.alen (ti:=tt 24) hS3 rfl
 have hnl:∀ (l:List Int) k,k < l.length→(l.map iv).getD k []=[.int .i64 (elt l k)]:=fun l k hk=>ivs_getD hk
 rw [← hrow] at hst
 rw [← hrow] at hp
 subst he
 rw [parV,hp] at k37
 unfold stepR at hst
 rw [hp] at hst
 simp only at k37 hst
 unfold stepL at hst
 rw [if_neg (by simp),if_neg h_i] at hst
 have f_i:(((i:Nat):Int)=0)=False:=eq_false (by omega)
 by_cases h_sq:w=wSq
 case pos =>
  have h_w:w=[115,113,117,97,114,101]:=h_sq
  have f_town:(w=[116,111,119,110])=False:=eq_false (by rw [h_w];decide)
  have f_sq:(w=[115,113,117,97,114,101])=True:=eq_true h_w
  have f_st:(w=[115,116,114,101,101,116])=False:=eq_false (by rw [h_w];decide)
  have f_gr:(w=[103,114,111,117,112])=False:=eq_false (by rw [h_w];decide)
  have f_end:(w=[101,110,100])=False:=eq_false (by rw [h_w];decide)
  by_cases hl:l.length=1
  case neg =>
   as_aux_lemma =>
    repeat' (first|refine st_seq_reg rfl (by first|(simp only[go_sem,sL,eN,hrg,hn1,hn2,hn3,hc1,hc2,hc3,hle2,hle3,Lm,f_town,f_sq,f_st,f_gr,f_end,f_i];rfl)|rfl) (by first|(simp only[go_sem,sL,eN,hrg,hn1,hn2,hn3,hc1,hc2,hc3,hle2,hle3,Lm,f_town,f_sq,f_st,f_gr,f_end,f_i];rfl)|rfl) ?_|refine st_reg rfl (by first|(simp only[go_sem,sL,eN,hrg,hn1,hn2,hn3,hc1,hc2,hc3,hle2,hle3,Lm,f_town,f_sq,f_st,f_gr,f_end,f_i];rfl)|rfl) (by first|(simp only[go_sem,sL,eN,hrg,hn1,hn2,hn3,hc1,hc2,hc3,hle2,hle3,Lm,f_town,f_sq,f_st,f_gr,f_end,f_i];rfl)|rfl) ?_|refine st_draw rfl (by first|(simp only[go_sem,sL,eN,hrg,hn1,hn2,hn3,hc1,hc2,hc3,hle2,hle3,Lm,f_town,f_sq,f_st,f_gr,f_end,f_i];rfl)|rfl) (by first|(simp only[go_sem,sL,eN,hrg,hn1,hn2,hn3,hc1,hc2,hc3,hle2,hle3,Lm,f_town,f_sq,f_st,f_gr,f_end,f_i];rfl)|rfl) ?_|refine st_op ?_|refine st_det rfl (by simp (disch:=omega) only[go_sem,wr_i64,sL,eN,hrg,hn1,hn2,hn3,hc1,hc2,hc3,hle2,hle3,Lm,f_town,f_sq,f_st,f_gr,f_end,f_i];rfl) ?_|refine st_dop rfl ?_|refine st_store (by simp (disch:=omega) only[go_sem,wr_i64,sL,eN,hrg,hn1,hn2,hn3,hc1,hc2,hc3,hle2,hle3,Lm,f_town,f_sq,f_st,f_gr,f_end,f_i];rfl) ?_|(refine st_pureE (by first|(simp (disch:=omega) only[go_sem,sL,eN,hrg,hn1,hn2,hn3,hc1,hc2,hc3,hle2,hle3,Lm,f_town,f_sq,f_st,f_gr,f_end,f_i];rfl)|rfl) rfl (k37) (by first|(simp only[go_sem,sL,eN,hrg,hn1,hn2,hn3,hc1,hc2,hc3,hle2,hle3,Lm,f_town,f_sq,f_st,f_gr,f_end,f_i];rfl)|rfl) (by intro n;first|(simp (disch:=omega) only[go_sem];rfl)|rfl) ?_;intro n hn)|refine st_gT rfl rfl rfl ?_|refine st_gF rfl rfl rfl ?_|(refine st_gS rfl rfl ?_ ?_ <;> intro hg <;> (try simp only[dcT,dcF,bnT,bnF] at hg))|refine st_condT rfl ?_|refine st_condF rfl ?_|(refine st_condS rfl ?_ ?_ <;> intro hg <;> (try simp only[dcT,dcF,bnT,bnF] at hg))|refine st_nil ?_|refine st_tN ?_|refine st_seq ?_|refine st_block ?_|refine st_skip ?_|refine st_exit ?_|refine st_ret ?_|refine st_tE ?_|refine st_tR ?_|refine st_bN ?_|refine st_bR ?_)
    all_goals try (exfalso;omega)
    refine hQ _ ?_
    simp (disch:=omega) only[AEnd,Tryz.results13,aresK,fin,go_sem,implies_true,true_and,and_true,List.reverse_cons,List.reverse_nil]
    exact ⟨hat,hlp,.inl hf⟩
  by_cases hj:ss.length=0
  case neg =>
   have hz:(((ss.length:Nat):Int)=0)=False:=eq_false (by omega)
   as_aux_lemma =>
    repeat' (first|refine st_seq_reg rfl (by first|(simp only[go_sem,sL,eN,hrg,hn1,hn2,hn3,hc1,hc2,hc3,hle2,hle3,Lm,f_town,f_sq,f_st,f_gr,f_end,f_i,hz];rfl)|rfl) (by first|(simp only[go_sem,sL,eN,hrg,hn1,hn2,hn3,hc1,hc2,hc3,hle2,hle3,Lm,f_town,f_sq,f_st,f_gr,f_end,f_i,hz];rfl)|rfl) ?_|refine st_reg rfl (by first|(simp only[go_sem,sL,eN,hrg,hn1,hn2,hn3,hc1,hc2,hc3,hle2,hle3,Lm,f_town,f_sq,f_st,f_gr,f_end,f_i,hz];rfl)|rfl) (by first|(simp only[go_sem,sL,eN,hrg,hn1,hn2,hn3,hc1,hc2,hc3,hle2,hle3,Lm,f_town,f_sq,f_st,f_gr,f_end,f_i,hz];rfl)|rfl) ?_|refine st_op ?_|refine st_det rfl (by simp (disch:=omega) only[go_sem,wr_i64,sL,eN,hrg,hn1,hn2,hn3,hc1,hc2,hc3,hle2,hle3,Lm,f_town,f_sq,f_st,f_gr,f_end,f_i,hz];rfl) ?_|refine st_store (by simp (disch:=omega) only[go_sem,wr_i64,sL,eN,hrg,hn1,hn2,hn3,hc1,hc2,hc3,hle2,hle3,Lm,f_town,f_sq,f_st,f_gr,f_end,f_i,hz];rfl) ?_|(refine st_pureE (by first|(simp (disch:=omega) only[go_sem,sL,eN,hrg,hn1,hn2,hn3,hc1,hc2,hc3,hle2,hle3,Lm,f_town,f_sq,f_st,f_gr,f_end,f_i,hz];rfl)|rfl) rfl (k37) (by first|(simp only[go_sem,sL,eN,hrg,hn1,hn2,hn3,hc1,hc2,hc3,hle2,hle3,Lm,f_town,f_sq,f_st,f_gr,f_end,f_i,hz];rfl)|rfl) (by intro n;first|(simp (disch:=omega) only[go_sem];rfl)|rfl) ?_;intro n hn)|refine st_gT rfl rfl rfl ?_|refine st_gF rfl rfl rfl ?_|(refine st_gS rfl rfl ?_ ?_ <;> intro hg <;> (try simp only[dcT,dcF,bnT,bnF] at hg))|refine st_condT rfl ?_|refine st_condF rfl ?_|(refine st_condS rfl ?_ ?_ <;> intro hg <;> (try simp only[dcT,dcF,bnT,bnF] at hg))|refine st_nil ?_|refine st_tN ?_|refine st_seq ?_|refine st_block ?_|refine st_skip ?_|refine st_exit ?_|refine st_ret ?_|refine st_tE ?_|refine st_tR ?_|refine st_bN ?_|refine st_bR ?_)
    all_goals try (exfalso;omega)
    refine hQ _ ?_
    simp (disch:=omega) only[AEnd,Tryz.results13,aresK,fin,go_sem,implies_true,true_and,and_true,List.reverse_cons,List.reverse_nil]
    exact ⟨hat,hlp,.inl hf⟩
  by_cases hg0:gs.length=0
  case pos=>rw [if_pos ⟨h_sq,hl,hj,hg0⟩] at hst;cases hst
  have hz2:(((ss.length:Nat):Int)=0)=True:=eq_true (by omega)
  have hz:(((gs.length:Nat):Int)=0)=False:=eq_false (by omega)
  as_aux_lemma =>
   repeat' (first|refine st_seq_reg rfl (by first|(simp only[go_sem,sL,eN,hrg,hn1,hn2,hn3,hc1,hc2,hc3,hle2,hle3,Lm,f_town,f_sq,f_st,f_gr,f_end,f_i,hz2,hz];rfl)|rfl) (by first|(simp only[go_sem,sL,eN,hrg,hn1,hn2,hn3,hc1,hc2,hc3,hle2,hle3,Lm,f_town,f_sq,f_st,f_gr,f_end,f_i,hz2,hz];rfl)|rfl) ?_|refine st_reg rfl (by first|(simp only[go_sem,sL,eN,hrg,hn1,hn2,hn3,hc1,hc2,hc3,hle2,hle3,Lm,f_town,f_sq,f_st,f_gr,f_end,f_i,hz2,hz];rfl)|rfl) (by first|(simp only[go_sem,sL,eN,hrg,hn1,hn2,hn3,hc1,hc2,hc3,hle2,hle3,Lm,f_town,f_sq,f_st,f_gr,f_end,f_i,hz2,hz];rfl)|rfl) ?_|refine st_op ?_|refine st_det rfl (by simp (disch:=omega) only[go_sem,wr_i64,sL,eN,hrg,hn1,hn2,hn3,hc1,hc2,hc3,hle2,hle3,Lm,f_town,f_sq,f_st,f_gr,f_end,f_i,hz2,hz];rfl) ?_|refine st_store (by simp (disch:=omega) only[go_sem,wr_i64,sL,eN,hrg,hn1,hn2,hn3,hc1,hc2,hc3,hle2,hle3,Lm,f_town,f_sq,f_st,f_gr,f_end,f_i,hz2,hz];rfl) ?_|(refine st_pureE (by first|(simp (disch:=omega) only[go_sem,sL,eN,hrg,hn1,hn2,hn3,hc1,hc2,hc3,hle2,hle3,Lm,f_town,f_sq,f_st,f_gr,f_end,f_i,hz2,hz];rfl)|rfl) rfl (k37) (by first|(simp only[go_sem,sL,eN,hrg,hn1,hn2,hn3,hc1,hc2,hc3,hle2,hle3,Lm,f_town,f_sq,f_st,f_gr,f_end,f_i,hz2,hz];rfl)|rfl) (by intro n;first|(simp (disch:=omega) only[go_sem];rfl)|rfl) ?_;intro n hn)|refine st_gT rfl rfl rfl ?_|refine st_gF rfl rfl rfl ?_|(refine st_gS rfl rfl ?_ ?_ <;> intro hg <;> (try simp only[dcT,dcF,bnT,bnF] at hg))|refine st_condT rfl ?_|refine st_condF rfl ?_|(refine st_condS rfl ?_ ?_ <;> intro hg <;> (try simp only[dcT,dcF,bnT,bnF] at hg))|refine st_nil ?_|refine st_tN ?_|refine st_seq ?_|refine st_block ?_|refine st_skip ?_|refine st_exit ?_|refine st_ret ?_|refine st_tE ?_|refine st_tR ?_|refine st_bN ?_|refine st_bR ?_)
   all_goals try (exfalso;omega)
   refine hQ _ ?_
   simp (disch:=omega) only[AEnd,Tryz.results13,aresK,fin,go_sem,implies_true,true_and,and_true,List.reverse_cons,List.reverse_nil]
   exact ⟨hat,hlp,.inl hf⟩
 rw [if_neg (fun q=>h_sq q.1)] at hst
 by_cases h_st:w=wSt
 case pos =>
  have h_w:w=[115,116,114,101,101,116]:=h_st
  have f_town:(w=[116,111,119,110])=False:=eq_false (by rw [h_w];decide)
  have f_sq:(w=[115,113,117,97,114,101])=False:=eq_false (by rw [h_w];decide)
  have f_st:(w=[115,116,114,101,101,116])=True:=eq_true h_w
  have f_gr:(w=[103,114,111,117,112])=False:=eq_false (by rw [h_w];decide)
  have f_end:(w=[101,110,100])=False:=eq_false (by rw [h_w];decide)
  by_cases hl:l.length=2
  case neg =>
   as_aux_lemma =>
    repeat' (first|refine st_seq_reg rfl (by first|(simp only[go_sem,sL,eN,hrg,hn1,hn2,hn3,hc1,hc2,hc3,hle2,hle3,Lm,f_town,f_sq,f_st,f_gr,f_end,f_i];rfl)|rfl) (by first|(simp only[go_sem,sL,eN,hrg,hn1,hn2,hn3,hc1,hc2,hc3,hle2,hle3,Lm,f_town,f_sq,f_st,f_gr,f_end,f_i];rfl)|rfl) ?_|refine st_reg rfl (by first|(simp only[go_sem,sL,eN,hrg,hn1,hn2,hn3,hc1,hc2,hc3,hle2,hle3,Lm,f_town,f_sq,f_st,f_gr,f_end,f_i];rfl)|rfl) (by first|(simp only[go_sem,sL,eN,hrg,hn1,hn2,hn3,hc1,hc2,hc3,hle2,hle3,Lm,f_town,f_sq,f_st,f_gr,f_end,f_i];rfl)|rfl) ?_|refine st_draw rfl (by first|(simp only[go_sem,sL,eN,hrg,hn1,hn2,hn3,hc1,hc2,hc3,hle2,hle3,Lm,f_town,f_sq,f_st,f_gr,f_end,f_i];rfl)|rfl) (by first|(simp only[go_sem,sL,eN,hrg,hn1,hn2,hn3,hc1,hc2,hc3,hle2,hle3,Lm,f_town,f_sq,f_st,f_gr,f_end,f_i];rfl)|rfl) ?_|refine st_op ?_|refine st_det rfl (by simp (disch:=omega) only[go_sem,wr_i64,sL,eN,hrg,hn1,hn2,hn3,hc1,hc2,hc3,hle2,hle3,Lm,f_town,f_sq,f_st,f_gr,f_end,f_i];rfl) ?_|refine st_dop rfl ?_|refine st_store (by simp (disch:=omega) only[go_sem,wr_i64,sL,eN,hrg,hn1,hn2,hn3,hc1,hc2,hc3,hle2,hle3,Lm,f_town,f_sq,f_st,f_gr,f_end,f_i];rfl) ?_|(refine st_pureE (by first|(simp (disch:=omega) only[go_sem,sL,eN,hrg,hn1,hn2,hn3,hc1,hc2,hc3,hle2,hle3,Lm,f_town,f_sq,f_st,f_gr,f_end,f_i];rfl)|rfl) rfl (k37) (by first|(simp only[go_sem,sL,eN,hrg,hn1,hn2,hn3,hc1,hc2,hc3,hle2,hle3,Lm,f_town,f_sq,f_st,f_gr,f_end,f_i];rfl)|rfl) (by intro n;first|(simp (disch:=omega) only[go_sem];rfl)|rfl) ?_;intro n hn)|refine st_gT rfl rfl rfl ?_|refine st_gF rfl rfl rfl ?_|(refine st_gS rfl rfl ?_ ?_ <;> intro hg <;> (try simp only[dcT,dcF,bnT,bnF] at hg))|refine st_condT rfl ?_|refine st_condF rfl ?_|(refine st_condS rfl ?_ ?_ <;> intro hg <;> (try simp only[dcT,dcF,bnT,bnF] at hg))|refine st_nil ?_|refine st_tN ?_|refine st_seq ?_|refine st_block ?_|refine st_skip ?_|refine st_exit ?_|refine st_ret ?_|refine st_tE ?_|refine st_tR ?_|refine st_bN ?_|refine st_bR ?_)
    all_goals try (exfalso;omega)
    refine hQ _ ?_
    simp (disch:=omega) only[AEnd,Tryz.results13,aresK,fin,go_sem,implies_true,true_and,and_true,List.reverse_cons,List.reverse_nil]
    exact ⟨hat,hlp,.inl hf⟩
  by_cases hg0:gs.length=0
  case pos=>rw [if_pos ⟨h_st,hl,hg0⟩] at hst;cases hst
  have hz:(((gs.length:Nat):Int)=0)=False:=eq_false (by omega)
  as_aux_lemma =>
   repeat' (first|refine st_seq_reg rfl (by first|(simp only[go_sem,sL,eN,hrg,hn1,hn2,hn3,hc1,hc2,hc3,hle2,hle3,Lm,f_town,f_sq,f_st,f_gr,f_end,f_i,hz];rfl)|rfl) (by first|(simp only[go_sem,sL,eN,hrg,hn1,hn2,hn3,hc1,hc2,hc3,hle2,hle3,Lm,f_town,f_sq,f_st,f_gr,f_end,f_i,hz];rfl)|rfl) ?_|refine st_reg rfl (by first|(simp only[go_sem,sL,eN,hrg,hn1,hn2,hn3,hc1,hc2,hc3,hle2,hle3,Lm,f_town,f_sq,f_st,f_gr,f_end,f_i,hz];rfl)|rfl) (by first|(simp only[go_sem,sL,eN,hrg,hn1,hn2,hn3,hc1,hc2,hc3,hle2,hle3,Lm,f_town,f_sq,f_st,f_gr,f_end,f_i,hz];rfl)|rfl) ?_|refine st_op ?_|refine st_det rfl (by simp (disch:=omega) only[go_sem,wr_i64,sL,eN,hrg,hn1,hn2,hn3,hc1,hc2,hc3,hle2,hle3,Lm,f_town,f_sq,f_st,f_gr,f_end,f_i,hz];rfl) ?_|refine st_store (by simp (disch:=omega) only[go_sem,wr_i64,sL,eN,hrg,hn1,hn2,hn3,hc1,hc2,hc3,hle2,hle3,Lm,f_town,f_sq,f_st,f_gr,f_end,f_i,hz];rfl) ?_|(refine st_pureE (by first|(simp (disch:=omega) only[go_sem,sL,eN,hrg,hn1,hn2,hn3,hc1,hc2,hc3,hle2,hle3,Lm,f_town,f_sq,f_st,f_gr,f_end,f_i,hz];rfl)|rfl) rfl (k37) (by first|(simp only[go_sem,sL,eN,hrg,hn1,hn2,hn3,hc1,hc2,hc3,hle2,hle3,Lm,f_town,f_sq,f_st,f_gr,f_end,f_i,hz];rfl)|rfl) (by intro n;first|(simp (disch:=omega) only[go_sem];rfl)|rfl) ?_;intro n hn)|refine st_gT rfl rfl rfl ?_|refine st_gF rfl rfl rfl ?_|(refine st_gS rfl rfl ?_ ?_ <;> intro hg <;> (try simp only[dcT,dcF,bnT,bnF] at hg))|refine st_condT rfl ?_|refine st_condF rfl ?_|(refine st_condS rfl ?_ ?_ <;> intro hg <;> (try simp only[dcT,dcF,bnT,bnF] at hg))|refine st_nil ?_|refine st_tN ?_|refine st_seq ?_|refine st_block ?_|refine st_skip ?_|refine st_exit ?_|refine st_ret ?_|refine st_tE ?_|refine st_tR ?_|refine st_bN ?_|refine st_bR ?_)
   all_goals try (exfalso;omega)
   refine hQ _ ?_
   simp (disch:=omega) only[AEnd,Tryz.results13,aresK,fin,go_sem,implies_true,true_and,and_true,List.reverse_cons,List.reverse_nil]
   exact ⟨hat,hlp,.inl hf⟩
 rw [if_neg (fun q=>h_st q.1)] at hst
 by_cases h_gr:w=wGr
 case pos =>
  have h_w:w=[103,114,111,117,112]:=h_gr
  have f_town:(w=[116,111,119,110])=False:=eq_false (by rw [h_w];decide)
  have f_sq:(w=[115,113,117,97,114,101])=False:=eq_false (by rw [h_w];decide)
  have f_st:(w=[115,116,114,101,101,116])=False:=eq_false (by rw [h_w];decide)
  have f_gr:(w=[103,114,111,117,112])=True:=eq_true h_w
  have f_end:(w=[101,110,100])=False:=eq_false (by rw [h_w];decide)
  by_cases hl:6≤l.length
  case pos=>rw [if_pos ⟨h_gr,hl⟩] at hst;cases hst
  as_aux_lemma =>
   repeat' (first|refine st_seq_reg rfl (by first|(simp only[go_sem,sL,eN,hrg,hn1,hn2,hn3,hc1,hc2,hc3,hle2,hle3,Lm,f_town,f_sq,f_st,f_gr,f_end,f_i];rfl)|rfl) (by first|(simp only[go_sem,sL,eN,hrg,hn1,hn2,hn3,hc1,hc2,hc3,hle2,hle3,Lm,f_town,f_sq,f_st,f_gr,f_end,f_i];rfl)|rfl) ?_|refine st_reg rfl (by first|(simp only[go_sem,sL,eN,hrg,hn1,hn2,hn3,hc1,hc2,hc3,hle2,hle3,Lm,f_town,f_sq,f_st,f_gr,f_end,f_i];rfl)|rfl) (by first|(simp only[go_sem,sL,eN,hrg,hn1,hn2,hn3,hc1,hc2,hc3,hle2,hle3,Lm,f_town,f_sq,f_st,f_gr,f_end,f_i];rfl)|rfl) ?_|refine st_draw rfl (by first|(simp only[go_sem,sL,eN,hrg,hn1,hn2,hn3,hc1,hc2,hc3,hle2,hle3,Lm,f_town,f_sq,f_st,f_gr,f_end,f_i];rfl)|rfl) (by first|(simp only[go_sem,sL,eN,hrg,hn1,hn2,hn3,hc1,hc2,hc3,hle2,hle3,Lm,f_town,f_sq,f_st,f_gr,f_end,f_i];rfl)|rfl) ?_|refine st_op ?_|refine st_det rfl (by simp (disch:=omega) only[go_sem,wr_i64,sL,eN,hrg,hn1,hn2,hn3,hc1,hc2,hc3,hle2,hle3,Lm,f_town,f_sq,f_st,f_gr,f_end,f_i];rfl) ?_|refine st_dop rfl ?_|refine st_store (by simp (disch:=omega) only[go_sem,wr_i64,sL,eN,hrg,hn1,hn2,hn3,hc1,hc2,hc3,hle2,hle3,Lm,f_town,f_sq,f_st,f_gr,f_end,f_i];rfl) ?_|refine st_append (by simp (disch:=omega) only[go_sem,wr_i64,sL,eN,hrg,hn1,hn2,hn3,hc1,hc2,hc3,hle2,hle3,Lm,f_town,f_sq,f_st,f_gr,f_end,f_i];rfl) ?_|(refine st_pureE (by first|(simp (disch:=omega) only[go_sem,sL,eN,hrg,hn1,hn2,hn3,hc1,hc2,hc3,hle2,hle3,Lm,f_town,f_sq,f_st,f_gr,f_end,f_i];rfl)|rfl) rfl (k37) (by first|(simp only[go_sem,sL,eN,hrg,hn1,hn2,hn3,hc1,hc2,hc3,hle2,hle3,Lm,f_town,f_sq,f_st,f_gr,f_end,f_i];rfl)|rfl) (by intro n;first|(simp (disch:=omega) only[go_sem];rfl)|rfl) ?_;intro n hn)|refine st_gT rfl rfl rfl ?_|refine st_gF rfl rfl rfl ?_|refine st_condT rfl ?_|refine st_condF rfl ?_|(refine st_condS rfl ?_ ?_ <;> intro hg <;> (try simp only[dcT,dcF,bnT,bnF] at hg))|refine st_nil ?_|refine st_tN ?_|refine st_seq ?_|refine st_block ?_|refine st_skip ?_|refine st_exit ?_|refine st_ret ?_|refine st_tE ?_|refine st_tR ?_|refine st_bN ?_|refine st_bR ?_)
   all_goals try (exfalso;omega)
   refine hQ _ ?_
   simp (disch:=omega) only[AEnd,Tryz.results13,aresK,fin,go_sem,implies_true,true_and,and_true,List.reverse_cons,List.reverse_nil]
   exact ⟨hat,hlp,.inl hf⟩
 rw [if_neg (fun q=>h_gr q.1)] at hst
 by_cases h_end:w=wEnd
 case pos =>
  have h_w:w=[101,110,100]:=h_end
  have f_town:(w=[116,111,119,110])=False:=eq_false (by rw [h_w];decide)
  have f_sq:(w=[115,113,117,97,114,101])=False:=eq_false (by rw [h_w];decide)
  have f_st:(w=[115,116,114,101,101,116])=False:=eq_false (by rw [h_w];decide)
  have f_gr:(w=[103,114,111,117,112])=False:=eq_false (by rw [h_w];decide)
  have f_end:(w=[101,110,100])=True:=eq_true h_w
  by_cases hl:l.length=1
  case neg =>
   as_aux_lemma =>
    repeat' (first|refine st_seq_reg rfl (by first|(simp only[go_sem,sL,eN,hrg,hn1,hn2,hn3,hc1,hc2,hc3,hle2,hle3,Lm,f_town,f_sq,f_st,f_gr,f_end,f_i];rfl)|rfl) (by first|(simp only[go_sem,sL,eN,hrg,hn1,hn2,hn3,hc1,hc2,hc3,hle2,hle3,Lm,f_town,f_sq,f_st,f_gr,f_end,f_i];rfl)|rfl) ?_|refine st_reg rfl (by first|(simp only[go_sem,sL,eN,hrg,hn1,hn2,hn3,hc1,hc2,hc3,hle2,hle3,Lm,f_town,f_sq,f_st,f_gr,f_end,f_i];rfl)|rfl) (by first|(simp only[go_sem,sL,eN,hrg,hn1,hn2,hn3,hc1,hc2,hc3,hle2,hle3,Lm,f_town,f_sq,f_st,f_gr,f_end,f_i];rfl)|rfl) ?_|refine st_draw rfl (by first|(simp only[go_sem,sL,eN,hrg,hn1,hn2,hn3,hc1,hc2,hc3,hle2,hle3,Lm,f_town,f_sq,f_st,f_gr,f_end,f_i];rfl)|rfl) (by first|(simp only[go_sem,sL,eN,hrg,hn1,hn2,hn3,hc1,hc2,hc3,hle2,hle3,Lm,f_town,f_sq,f_st,f_gr,f_end,f_i];rfl)|rfl) ?_|refine st_op ?_|refine st_det rfl (by simp (disch:=omega) only[go_sem,wr_i64,sL,eN,hrg,hn1,hn2,hn3,hc1,hc2,hc3,hle2,hle3,Lm,f_town,f_sq,f_st,f_gr,f_end,f_i];rfl) ?_|refine st_dop rfl ?_|refine st_store (by simp (disch:=omega) only[go_sem,wr_i64,sL,eN,hrg,hn1,hn2,hn3,hc1,hc2,hc3,hle2,hle3,Lm,f_town,f_sq,f_st,f_gr,f_end,f_i];rfl) ?_|(refine st_pureE (by first|(simp (disch:=omega) only[go_sem,sL,eN,hrg,hn1,hn2,hn3,hc1,hc2,hc3,hle2,hle3,Lm,f_town,f_sq,f_st,f_gr,f_end,f_i];rfl)|rfl) rfl (k37) (by first|(simp only[go_sem,sL,eN,hrg,hn1,hn2,hn3,hc1,hc2,hc3,hle2,hle3,Lm,f_town,f_sq,f_st,f_gr,f_end,f_i];rfl)|rfl) (by intro n;first|(simp (disch:=omega) only[go_sem];rfl)|rfl) ?_;intro n hn)|refine st_gT rfl rfl rfl ?_|refine st_gF rfl rfl rfl ?_|refine st_condT rfl ?_|refine st_condF rfl ?_|(refine st_condS rfl ?_ ?_ <;> intro hg <;> (try simp only[dcT,dcF,bnT,bnF] at hg))|refine st_nil ?_|refine st_dnil ?_|refine st_tN ?_|refine st_seq ?_|refine st_block ?_|refine st_skip ?_|refine st_exit ?_|refine st_ret ?_|refine st_tE ?_|refine st_tR ?_|refine st_bN ?_|refine st_bR ?_)
    all_goals try (exfalso;omega)
    refine hQ _ ?_
    simp (disch:=omega) only[AEnd,Tryz.results13,aresK,fin,go_sem,implies_true,true_and,and_true,List.reverse_cons,List.reverse_nil]
    exact ⟨hat,hlp,.inl hf⟩
  have hl0:=hnl l 0 (by omega)
  by_cases hq:elt l 0=gs.length
  case pos=>rw [if_pos ⟨h_end,hl,hq⟩] at hst;cases hst
  have hq1:(elt l (Int.toNat 0)=(gs.length:Int))=False:=eq_false hq
  as_aux_lemma =>
   repeat' (first|refine st_seq_reg rfl (by first|(simp only[go_sem,sL,eN,hrg,hn1,hn2,hn3,hc1,hc2,hc3,hle2,hle3,Lm,f_town,f_sq,f_st,f_gr,f_end,f_i,hl0,hq1,hq];rfl)|rfl) (by first|(simp only[go_sem,sL,eN,hrg,hn1,hn2,hn3,hc1,hc2,hc3,hle2,hle3,Lm,f_town,f_sq,f_st,f_gr,f_end,f_i,hl0,hq1,hq];rfl)|rfl) ?_|refine st_reg rfl (by first|(simp only[go_sem,sL,eN,hrg,hn1,hn2,hn3,hc1,hc2,hc3,hle2,hle3,Lm,f_town,f_sq,f_st,f_gr,f_end,f_i,hl0,hq1,hq];rfl)|rfl) (by first|(simp only[go_sem,sL,eN,hrg,hn1,hn2,hn3,hc1,hc2,hc3,hle2,hle3,Lm,f_town,f_sq,f_st,f_gr,f_end,f_i,hl0,hq1,hq];rfl)|rfl) ?_|refine st_draw rfl (by first|(simp only[go_sem,sL,eN,hrg,hn1,hn2,hn3,hc1,hc2,hc3,hle2,hle3,Lm,f_town,f_sq,f_st,f_gr,f_end,f_i,hl0,hq1,hq];rfl)|rfl) (by first|(simp only[go_sem,sL,eN,hrg,hn1,hn2,hn3,hc1,hc2,hc3,hle2,hle3,Lm,f_town,f_sq,f_st,f_gr,f_end,f_i,hl0,hq1,hq];rfl)|rfl) ?_|refine st_op ?_|refine st_det rfl (by simp (disch:=omega) only[go_sem,wr_i64,sL,eN,hrg,hn1,hn2,hn3,hc1,hc2,hc3,hle2,hle3,Lm,f_town,f_sq,f_st,f_gr,f_end,f_i,hl0,hq1,hq];rfl) ?_|refine st_dop rfl ?_|refine st_store (by simp (disch:=omega) only[go_sem,wr_i64,sL,eN,hrg,hn1,hn2,hn3,hc1,hc2,hc3,hle2,hle3,Lm,f_town,f_sq,f_st,f_gr,f_end,f_i,hl0,hq1,hq];rfl) ?_|(refine st_pureE (by first|(simp (disch:=omega) only[go_sem,sL,eN,hrg,hn1,hn2,hn3,hc1,hc2,hc3,hle2,hle3,Lm,f_town,f_sq,f_st,f_gr,f_end,f_i,hl0,hq1,hq];rfl)|rfl) rfl (k37) (by first|(simp only[go_sem,sL,eN,hrg,hn1,hn2,hn3,hc1,hc2,hc3,hle2,hle3,Lm,f_town,f_sq,f_st,f_gr,f_end,f_i,hl0,hq1,hq];rfl)|rfl) (by intro n;first|(simp (disch:=omega) only[go_sem];rfl)|rfl) ?_;intro n hn)|refine st_gT rfl rfl rfl ?_|refine st_gF rfl rfl rfl ?_|refine st_condT rfl ?_|refine st_condF rfl ?_|(refine st_condS rfl ?_ ?_ <;> intro hg <;> (try simp only[dcT,dcF,bnT,bnF] at hg))|refine st_nil ?_|refine st_dnil ?_|refine st_tN ?_|refine st_seq ?_|refine st_block ?_|refine st_skip ?_|refine st_exit ?_|refine st_ret ?_|refine st_tE ?_|refine st_tR ?_|refine st_bN ?_|refine st_bR ?_)
   all_goals try (exfalso;omega)
   refine hQ _ ?_
   simp (disch:=omega) only[AEnd,Tryz.results13,aresK,fin,go_sem,implies_true,true_and,and_true,List.reverse_cons,List.reverse_nil]
   exact ⟨hat,hlp,.inl hf⟩
 have f_town:(w=[116,111,119,110])=False:=eq_false h_town
 have f_sq:(w=[115,113,117,97,114,101])=False:=eq_false h_sq
 have f_st:(w=[115,116,114,101,101,116])=False:=eq_false h_st
 have f_gr:(w=[103,114,111,117,112])=False:=eq_false h_gr
 have f_end:(w=[101,110,100])=False:=eq_false h_end
 as_aux_lemma =>
  repeat' (first|refine st_seq_reg rfl (by first|(simp only[go_sem,sL,eN,hrg,hn1,hn2,hn3,hc1,hc2,hc3,hle2,hle3,Lm,f_town,f_sq,f_st,f_gr,f_end,f_i];rfl)|rfl) (by first|(simp only[go_sem,sL,eN,hrg,hn1,hn2,hn3,hc1,hc2,hc3,hle2,hle3,Lm,f_town,f_sq,f_st,f_gr,f_end,f_i];rfl)|rfl) ?_|refine st_reg rfl (by first|(simp only[go_sem,sL,eN,hrg,hn1,hn2,hn3,hc1,hc2,hc3,hle2,hle3,Lm,f_town,f_sq,f_st,f_gr,f_end,f_i];rfl)|rfl) (by first|(simp only[go_sem,sL,eN,hrg,hn1,hn2,hn3,hc1,hc2,hc3,hle2,hle3,Lm,f_town,f_sq,f_st,f_gr,f_end,f_i];rfl)|rfl) ?_|refine st_op ?_|refine st_det rfl (by simp (disch:=omega) only[go_sem,wr_i64,sL,eN,hrg,hn1,hn2,hn3,hc1,hc2,hc3,hle2,hle3,Lm,f_town,f_sq,f_st,f_gr,f_end,f_i];rfl) ?_|refine st_store (by simp (disch:=omega) only[go_sem,wr_i64,sL,eN,hrg,hn1,hn2,hn3,hc1,hc2,hc3,hle2,hle3,Lm,f_town,f_sq,f_st,f_gr,f_end,f_i];rfl) ?_|(refine st_pureE (by first|(simp (disch:=omega) only[go_sem,sL,eN,hrg,hn1,hn2,hn3,hc1,hc2,hc3,hle2,hle3,Lm,f_town,f_sq,f_st,f_gr,f_end,f_i];rfl)|rfl) rfl (k37) (by first|(simp only[go_sem,sL,eN,hrg,hn1,hn2,hn3,hc1,hc2,hc3,hle2,hle3,Lm,f_town,f_sq,f_st,f_gr,f_end,f_i];rfl)|rfl) (by intro n;first|(simp (disch:=omega) only[go_sem];rfl)|rfl) ?_;intro n hn)|refine st_gT rfl rfl rfl ?_|refine st_gF rfl rfl rfl ?_|refine st_condT rfl ?_|refine st_condF rfl ?_|(refine st_condS rfl ?_ ?_ <;> intro hg <;> (try simp only[dcT,dcF,bnT,bnF] at hg))|refine st_nil ?_|refine st_tN ?_|refine st_seq ?_|refine st_block ?_|refine st_skip ?_|refine st_exit ?_|refine st_ret ?_|refine st_tE ?_|refine st_tR ?_|refine st_bN ?_|refine st_bR ?_)
  all_goals try (exfalso;omega)
  refine hQ _ ?_
  simp (disch:=omega) only[AEnd,Tryz.results13,aresK,fin,go_sem,implies_true,true_and,and_true,List.reverse_cons,List.reverse_nil]
  exact ⟨hat,hlp,.inl hf⟩
end Go.Proofs.YtoafigpikgigaaaGreatDoor
