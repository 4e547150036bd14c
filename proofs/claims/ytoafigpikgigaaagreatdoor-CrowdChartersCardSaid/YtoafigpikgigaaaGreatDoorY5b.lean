/- Contracts of functions that the claim reaches: what each call gives, told in our own logic. Conditions: those of each theorem. -/
import Derived.Test.YtoafigpikgigaaaGreatDoorY5a
open List (length_map)
set_option linter.all false
set_option linter.unusedSimpArgs false
set_option linter.unusedVariables false
namespace Go.Proofs.YtoafigpikgigaaaGreatDoor
open Go.Av Go.Txt Go.Lib
attribute [local irreducible] thenA blockA awp awpOps awpD awp1
attribute [local go_sem_proc] Nat.reduceAdd Nat.reduceMul Nat.reduceEqDiff Nat.reduceBEq Nat.reduceLeDiff
attribute [local go_sem_proc ↓] reduceIte
attribute [local go_sem] if_yes if_no
set_option maxHeartbeats 16000000
set_option maxRecDepth 20000
theorem rd_b1 (h:AH) (text:List UInt8) (rows body:List (List UInt8)) (nb:Nat) (hbody:body=rows.take nb) (hnb:nb=rows.length - 1) (hr1:1≤rows.length) (hrl:rows.length≤4001) (hbl:body.length=nb) (hbs:∀ x ∈ body,x.length≤4000)
  (i:Nat) (v1 v2 v3:AV) (rs:List Int) (ss:List Sx) (gs:List Gp) (sp:Int) (e:Bool) (g:AH) (c:Nat) (ha:rInv h body nb ⟨i,v1,v2,v3,⟨⟨rs,ss,gs,sp⟩,e⟩,g⟩) (hc:g.clk≤c) (hil:i < nb) (hst:stepR i ⟨⟨rs,ss,gs,sp⟩,e⟩ (body.getD i [])=none) (hw:rowP 7 (body.getD i [])=none ∨ e=true ∨ i=0 ∨ ∃ w l,rowP 7 (body.getD i [])=some (w,l)∧w=wTown) (hf:∃ v',VLe (.tup [.agg [.nils,.nils,.nils,.int .i64 0],.int .i64 ((i:Int)+1),.int .i64 1]) v'∧v'=rdV text)
  (Q:Exit→AS→Prop) (LC:Code) (hLC:loopB Tryz.f12=some LC) (hQ:∀ s,AEnd tt Tryz.f12.results.toList (rEnd h text) .ret s→Q .ret s) :
  awp Tryz.prog tt ⟨193,[2],[86,112,148],none,[(16,[0,1,0,4,12,28,63,127,255],[(0,false),(1,true),(2,false),(3,false),(4,true),(5,false),(6,false),(7,false),(8,false)]),(18,[0,1,0,4,12,0,32,96,252,508,1023,2047,4095],[(0,false),(1,true),(2,false),(3,false),(4,true),(5,false),(6,false),(7,true),(8,false),(9,false),(10,false),(11,false),(12,false)]),(20,[0,1,0,4,12,0,32,96,252,0,512,1536,0,4096,12288,32256,0,65536,196608,0,524288,1572864,0,4194304,16777212,33554428,67108863,134217727,268435455],[(0,false),(1,true),(2,false),(3,false),(4,true),(5,false),(6,false),(7,true),(8,false),(9,false),(10,false),(11,true),(12,false),(13,false),(14,true),(15,false),(16,false),(17,false),(18,true),(19,false),(20,false),(21,true),(22,false),(23,false),(24,false),(25,false),(26,false),(27,false),(28,false)]),(21,[0,1,3,7,15,31,63,127,255,511,1023,255,2303,6399,16383,32767,65535],[(0,false),(1,false),(2,false),(3,false),(4,false),(5,false),(6,false),(7,false),(8,false),(9,false),(10,true),(11,false),(12,true),(13,false),(14,false),(15,false),(16,false)])]⟩ LC (thenA (rNxt h body nb 27 [(2,.lptr (h.clk,2) 0),(3,.int .i64 0),(4,.int .i64 0),(5,.lst 1 (strs rows)),(6,.int .i64 (nb:Nat)),(25,.lst 1 (strs body)),(26,.int .i64 (nb:Nat))] [(h.clk,2)] (fun a=>[rBx a]) i) Q) ⟨keep (rV 27 ⟨i,v1,v2,v3,⟨⟨rs,ss,gs,sp⟩,e⟩,g⟩ ++ [(2,.lptr (h.clk,2) 0),(3,.int .i64 0),(4,.int .i64 0),(5,.lst 1 (strs rows)),(6,.int .i64 (nb:Nat)),(25,.lst 1 (strs body)),(26,.int .i64 (nb:Nat))]),keepB ([(h.clk,2)].zip ((fun a=>[rBx a]) ⟨i,v1,v2,v3,⟨⟨rs,ss,gs,sp⟩,e⟩,g⟩) ++ [].zip []),[],g.tick c⟩:=by
 obtain rfl:LC=_:=Option.some.inj (hLC.symm.trans (rfl:loopB Tryz.f12=some _))
 clear hLC
 obtain ⟨hi,hrun,hS1,hS2,hS3,hd12,hd13,hd23,hwl,hjl,hgl3,hat,hlp,hgl,hck⟩:=ha
 dsimp only at hi hrun hS1 hS2 hS3 hd12 hd13 hd23 hwl hjl hgl3 hat hlp hgl hck
 simp only[go_sem]
 have hn1:=hS1.noL
 have hc1:=hS1.cell
 have hn2:=hS2.noL
 have hc2:=hS2.cell
 have hn3:=hS3.noL
 have hc3:=hS3.cell
 have eN:((rows.length:Nat):Int) - 1=(nb:Nat):=by omega
 obtain ⟨row,hrow⟩:∃ row,row=body.getD i []:=⟨_,rfl⟩
 have hrl2:row.length≤4000:=hrow ▸ hbs _ (str_mem (by omega))
 have hrg:(strs body).getD i []=[.str row]:=by rw [strs_getD (by omega),hrow]
 have k37:=c40 row (by omega)
 have hle2:alen (tt 23) v2=some (ss.length:Int):=by simpa using SlA.alen (ti:=tt 23) hS2 rfl
 have hle3:alen (tt 24) v3=some (gs.length:Int):=by simpa using SlA.alen (ti:=tt 24) hS3 rfl
 have hnl:∀ (l:List Int) k,k < l.length→(l.map iv).getD k []=[.int .i64 (elt l k)]:=fun l k hk=>ivs_getD hk
 rw [← hrow] at hst
 rw [← hrow] at hw
 cases hp:rowP 7 row with
 | none =>
  rw [parV,hp] at k37
  as_aux_lemma =>
   repeat' (first|refine st_seq_reg rfl (by first|(simp only[go_sem,sL,hbl,hrg,hn1,hn2,hn3,hc1,hc2,hc3,hle2,hle3,Lm];rfl)|rfl) (by first|(simp only[go_sem,sL,hbl,hrg,hn1,hn2,hn3,hc1,hc2,hc3,hle2,hle3,Lm];rfl)|rfl) ?_|refine st_reg rfl (by first|(simp only[go_sem,sL,hbl,hrg,hn1,hn2,hn3,hc1,hc2,hc3,hle2,hle3,Lm];rfl)|rfl) (by first|(simp only[go_sem,sL,hbl,hrg,hn1,hn2,hn3,hc1,hc2,hc3,hle2,hle3,Lm];rfl)|rfl) ?_|refine st_op ?_|refine st_det rfl (by simp (disch:=omega) only[go_sem,wr_i64,sL,hbl,hrg,hn1,hn2,hn3,hc1,hc2,hc3,hle2,hle3,Lm];rfl) ?_|refine st_store (by simp (disch:=omega) only[go_sem,wr_i64,sL,hbl,hrg,hn1,hn2,hn3,hc1,hc2,hc3,hle2,hle3,Lm];rfl) ?_|(refine st_pureGE (by first|(simp (disch:=omega) only[go_sem,sL,hbl,hrg,hn1,hn2,hn3,hc1,hc2,hc3,hle2,hle3,Lm];rfl)|rfl) rfl (k37) (by exact hgl) (by first|(simp only[go_sem,sL,hbl,hrg,hn1,hn2,hn3,hc1,hc2,hc3,hle2,hle3,Lm];rfl)|rfl) (by intro n;first|(simp (disch:=omega) only[go_sem];rfl)|rfl) ?_;intro n hn)|refine st_gF rfl rfl rfl ?_|refine st_condT rfl ?_|(refine st_condS rfl ?_ ?_ <;> intro hg <;> (try simp only[dcT,dcF,bnT,bnF] at hg))|refine st_nil ?_|refine st_tN ?_|refine st_seq ?_|refine st_block ?_|refine st_skip ?_|refine st_exit ?_|refine st_ret ?_|refine st_tE ?_|refine st_tR ?_|refine st_bN ?_|refine st_bR ?_)
   all_goals try (exfalso;omega)
   refine hQ _ ?_
   simp (disch:=omega) only[AEnd,Tryz.results12,aresK,fin,go_sem,implies_true,true_and,and_true,List.reverse_cons,List.reverse_nil]
   exact ⟨hat,hlp,.inl hf⟩
 | some wl =>
  obtain ⟨w,l⟩:=wl
  rw [parV,hp] at k37
  unfold stepR at hst
  rw [hp] at hst
  simp only at k37 hst
  unfold stepL at hst
  cases e with
  | true =>
   as_aux_lemma =>
    repeat' (first|refine st_seq_reg rfl (by first|(simp only[go_sem,sL,hbl,hrg,hn1,hn2,hn3,hc1,hc2,hc3,hle2,hle3,Lm];rfl)|rfl) (by first|(simp only[go_sem,sL,hbl,hrg,hn1,hn2,hn3,hc1,hc2,hc3,hle2,hle3,Lm];rfl)|rfl) ?_|refine st_reg rfl (by first|(simp only[go_sem,sL,hbl,hrg,hn1,hn2,hn3,hc1,hc2,hc3,hle2,hle3,Lm];rfl)|rfl) (by first|(simp only[go_sem,sL,hbl,hrg,hn1,hn2,hn3,hc1,hc2,hc3,hle2,hle3,Lm];rfl)|rfl) ?_|refine st_op ?_|refine st_det rfl (by simp (disch:=omega) only[go_sem,wr_i64,sL,hbl,hrg,hn1,hn2,hn3,hc1,hc2,hc3,hle2,hle3,Lm];rfl) ?_|refine st_store (by simp (disch:=omega) only[go_sem,wr_i64,sL,hbl,hrg,hn1,hn2,hn3,hc1,hc2,hc3,hle2,hle3,Lm];rfl) ?_|(refine st_pureGE (by first|(simp (disch:=omega) only[go_sem,sL,hbl,hrg,hn1,hn2,hn3,hc1,hc2,hc3,hle2,hle3,Lm];rfl)|rfl) rfl (k37) (by exact hgl) (by first|(simp only[go_sem,sL,hbl,hrg,hn1,hn2,hn3,hc1,hc2,hc3,hle2,hle3,Lm];rfl)|rfl) (by intro n;first|(simp (disch:=omega) only[go_sem];rfl)|rfl) ?_;intro n hn)|refine st_gT rfl rfl rfl ?_|refine st_gF rfl rfl rfl ?_|refine st_condT rfl ?_|(refine st_condS rfl ?_ ?_ <;> intro hg <;> (try simp only[dcT,dcF,bnT,bnF] at hg))|refine st_nil ?_|refine st_tN ?_|refine st_seq ?_|refine st_block ?_|refine st_skip ?_|refine st_exit ?_|refine st_ret ?_|refine st_tE ?_|refine st_tR ?_|refine st_bN ?_|refine st_bR ?_)
    all_goals try (exfalso;omega)
    refine hQ _ ?_
    simp (disch:=omega) only[AEnd,Tryz.results12,aresK,fin,go_sem,implies_true,true_and,and_true,List.reverse_cons,List.reverse_nil]
    exact ⟨hat,hlp,.inl hf⟩
  | false =>
   rw [if_neg (by simp)] at hst
   by_cases h_i:i=0
   case pos =>
    have f_i:(((i:Nat):Int)=0)=True:=eq_true (by omega)
    rw [if_pos h_i] at hst
    by_cases h_town:w=wTown
    case pos =>
     have h_w:w=[116,111,119,110]:=h_town
     have f_town:(w=[116,111,119,110])=True:=eq_true h_w
     have f_sq:(w=[115,113,117,97,114,101])=False:=eq_false (by rw [h_w];decide)
     have f_st:(w=[115,116,114,101,101,116])=False:=eq_false (by rw [h_w];decide)
     have f_gr:(w=[103,114,111,117,112])=False:=eq_false (by rw [h_w];decide)
     have f_end:(w=[101,110,100])=False:=eq_false (by rw [h_w];decide)
     by_cases hl:l.length=1
     case pos=>rw [if_pos ⟨h_town,hl⟩] at hst;cases hst
     as_aux_lemma =>
      repeat' (first|refine st_seq_reg rfl (by first|(simp only[go_sem,sL,hbl,hrg,hn1,hn2,hn3,hc1,hc2,hc3,hle2,hle3,Lm,f_town,f_sq,f_st,f_gr,f_end,f_i];rfl)|rfl) (by first|(simp only[go_sem,sL,hbl,hrg,hn1,hn2,hn3,hc1,hc2,hc3,hle2,hle3,Lm,f_town,f_sq,f_st,f_gr,f_end,f_i];rfl)|rfl) ?_|refine st_reg rfl (by first|(simp only[go_sem,sL,hbl,hrg,hn1,hn2,hn3,hc1,hc2,hc3,hle2,hle3,Lm,f_town,f_sq,f_st,f_gr,f_end,f_i];rfl)|rfl) (by first|(simp only[go_sem,sL,hbl,hrg,hn1,hn2,hn3,hc1,hc2,hc3,hle2,hle3,Lm,f_town,f_sq,f_st,f_gr,f_end,f_i];rfl)|rfl) ?_|refine st_seq_draw rfl (by first|(simp only[go_sem,sL,hbl,hrg,hn1,hn2,hn3,hc1,hc2,hc3,hle2,hle3,Lm,f_town,f_sq,f_st,f_gr,f_end,f_i];rfl)|rfl) (by first|(simp only[go_sem,sL,hbl,hrg,hn1,hn2,hn3,hc1,hc2,hc3,hle2,hle3,Lm,f_town,f_sq,f_st,f_gr,f_end,f_i];rfl)|rfl) ?_|refine st_op ?_|refine st_det rfl (by simp (disch:=omega) only[go_sem,wr_i64,sL,hbl,hrg,hn1,hn2,hn3,hc1,hc2,hc3,hle2,hle3,Lm,f_town,f_sq,f_st,f_gr,f_end,f_i];rfl) ?_|refine st_dop rfl ?_|refine st_store (by simp (disch:=omega) only[go_sem,wr_i64,sL,hbl,hrg,hn1,hn2,hn3,hc1,hc2,hc3,hle2,hle3,Lm,f_town,f_sq,f_st,f_gr,f_end,f_i];rfl) ?_|(refine st_pureGE (by first|(simp (disch:=omega) only[go_sem,sL,hbl,hrg,hn1,hn2,hn3,hc1,hc2,hc3,hle2,hle3,Lm,f_town,f_sq,f_st,f_gr,f_end,f_i];rfl)|rfl) rfl (k37) (by exact hgl) (by first|(simp only[go_sem,sL,hbl,hrg,hn1,hn2,hn3,hc1,hc2,hc3,hle2,hle3,Lm,f_town,f_sq,f_st,f_gr,f_end,f_i];rfl)|rfl) (by intro n;first|(simp (disch:=omega) only[go_sem];rfl)|rfl) ?_;intro n hn)|refine st_gT rfl rfl rfl ?_|refine st_gF rfl rfl rfl ?_|refine st_dgF rfl rfl rfl ?_|refine st_condT rfl ?_|refine st_condF rfl ?_|(refine st_condS rfl ?_ ?_ <;> intro hg <;> (try simp only[dcT,dcF,bnT,bnF] at hg))|refine st_nil ?_|refine st_dnil ?_|refine st_tN ?_|refine st_seq ?_|refine st_block ?_|refine st_skip ?_|refine st_exit ?_|refine st_ret ?_|refine st_tE ?_|refine st_tR ?_|refine st_bN ?_|refine st_bR ?_)
      all_goals try (exfalso;omega)
      refine hQ _ ?_
      simp (disch:=omega) only[AEnd,Tryz.results12,aresK,fin,go_sem,implies_true,true_and,and_true,List.reverse_cons,List.reverse_nil]
      exact ⟨hat,hlp,.inl hf⟩
    have f_town:(w=[116,111,119,110])=False:=eq_false h_town
    as_aux_lemma =>
     repeat' (first|refine st_seq_reg rfl (by first|(simp only[go_sem,sL,hbl,hrg,hn1,hn2,hn3,hc1,hc2,hc3,hle2,hle3,Lm,f_town,f_i];rfl)|rfl) (by first|(simp only[go_sem,sL,hbl,hrg,hn1,hn2,hn3,hc1,hc2,hc3,hle2,hle3,Lm,f_town,f_i];rfl)|rfl) ?_|refine st_reg rfl (by first|(simp only[go_sem,sL,hbl,hrg,hn1,hn2,hn3,hc1,hc2,hc3,hle2,hle3,Lm,f_town,f_i];rfl)|rfl) (by first|(simp only[go_sem,sL,hbl,hrg,hn1,hn2,hn3,hc1,hc2,hc3,hle2,hle3,Lm,f_town,f_i];rfl)|rfl) ?_|refine st_op ?_|refine st_det rfl (by simp (disch:=omega) only[go_sem,wr_i64,sL,hbl,hrg,hn1,hn2,hn3,hc1,hc2,hc3,hle2,hle3,Lm,f_town,f_i];rfl) ?_|refine st_store (by simp (disch:=omega) only[go_sem,wr_i64,sL,hbl,hrg,hn1,hn2,hn3,hc1,hc2,hc3,hle2,hle3,Lm,f_town,f_i];rfl) ?_|(refine st_pureGE (by first|(simp (disch:=omega) only[go_sem,sL,hbl,hrg,hn1,hn2,hn3,hc1,hc2,hc3,hle2,hle3,Lm,f_town,f_i];rfl)|rfl) rfl (k37) (by exact hgl) (by first|(simp only[go_sem,sL,hbl,hrg,hn1,hn2,hn3,hc1,hc2,hc3,hle2,hle3,Lm,f_town,f_i];rfl)|rfl) (by intro n;first|(simp (disch:=omega) only[go_sem];rfl)|rfl) ?_;intro n hn)|refine st_gT rfl rfl rfl ?_|refine st_condT rfl ?_|(refine st_condS rfl ?_ ?_ <;> intro hg <;> (try simp only[dcT,dcF,bnT,bnF] at hg))|refine st_nil ?_|refine st_tN ?_|refine st_seq ?_|refine st_block ?_|refine st_skip ?_|refine st_exit ?_|refine st_ret ?_|refine st_tE ?_|refine st_tR ?_|refine st_bN ?_|refine st_bR ?_)
     all_goals try (exfalso;omega)
     refine hQ _ ?_
     simp (disch:=omega) only[AEnd,Tryz.results12,aresK,fin,go_sem,implies_true,true_and,and_true,List.reverse_cons,List.reverse_nil]
     exact ⟨hat,hlp,.inl hf⟩
   have f_i:(((i:Nat):Int)=0)=False:=eq_false (by omega)
   have h_town:w=wTown:=by
    rcases hw with q|q|q|⟨w',l',q,q2⟩
    ·rw [hp] at q;cases q
    ·cases q
    ·exact absurd q h_i
    ·rw [hp] at q;injection q with q;injection q with q3 q4;rw [q3];exact q2
   have h_w:w=[116,111,119,110]:=h_town
   have f_town:(w=[116,111,119,110])=True:=eq_true h_w
   have f_sq:(w=[115,113,117,97,114,101])=False:=eq_false (by rw [h_w];decide)
   have f_st:(w=[115,116,114,101,101,116])=False:=eq_false (by rw [h_w];decide)
   have f_gr:(w=[103,114,111,117,112])=False:=eq_false (by rw [h_w];decide)
   have f_end:(w=[101,110,100])=False:=eq_false (by rw [h_w];decide)
   as_aux_lemma =>
    repeat' (first|refine st_seq_reg rfl (by first|(simp only[go_sem,sL,hbl,hrg,hn1,hn2,hn3,hc1,hc2,hc3,hle2,hle3,Lm,f_town,f_sq,f_st,f_gr,f_end,f_i];rfl)|rfl) (by first|(simp only[go_sem,sL,hbl,hrg,hn1,hn2,hn3,hc1,hc2,hc3,hle2,hle3,Lm,f_town,f_sq,f_st,f_gr,f_end,f_i];rfl)|rfl) ?_|refine st_reg rfl (by first|(simp only[go_sem,sL,hbl,hrg,hn1,hn2,hn3,hc1,hc2,hc3,hle2,hle3,Lm,f_town,f_sq,f_st,f_gr,f_end,f_i];rfl)|rfl) (by first|(simp only[go_sem,sL,hbl,hrg,hn1,hn2,hn3,hc1,hc2,hc3,hle2,hle3,Lm,f_town,f_sq,f_st,f_gr,f_end,f_i];rfl)|rfl) ?_|refine st_op ?_|refine st_det rfl (by simp (disch:=omega) only[go_sem,wr_i64,sL,hbl,hrg,hn1,hn2,hn3,hc1,hc2,hc3,hle2,hle3,Lm,f_town,f_sq,f_st,f_gr,f_end,f_i];rfl) ?_|refine st_store (by simp (disch:=omega) only[go_sem,wr_i64,sL,hbl,hrg,hn1,hn2,hn3,hc1,hc2,hc3,hle2,hle3,Lm,f_town,f_sq,f_st,f_gr,f_end,f_i];rfl) ?_|(refine st_pureGE (by first|(simp (disch:=omega) only[go_sem,sL,hbl,hrg,hn1,hn2,hn3,hc1,hc2,hc3,hle2,hle3,Lm,f_town,f_sq,f_st,f_gr,f_end,f_i];rfl)|rfl) rfl (k37) (by exact hgl) (by first|(simp only[go_sem,sL,hbl,hrg,hn1,hn2,hn3,hc1,hc2,hc3,hle2,hle3,Lm,f_town,f_sq,f_st,f_gr,f_end,f_i];rfl)|rfl) (by intro n;first|(simp (disch:=omega) only[go_sem];rfl)|rfl) ?_;intro n hn)|refine st_gT rfl rfl rfl ?_|refine st_condT rfl ?_|(refine st_condS rfl ?_ ?_ <;> intro hg <;> (try simp only[dcT,dcF,bnT,bnF] at hg))|refine st_nil ?_|refine st_tN ?_|refine st_seq ?_|refine st_block ?_|refine st_skip ?_|refine st_exit ?_|refine st_ret ?_|refine st_tE ?_|refine st_tR ?_|refine st_bN ?_|refine st_bR ?_)
    all_goals try (exfalso;omega)
    refine hQ _ ?_
    simp (disch:=omega) only[AEnd,Tryz.results12,aresK,fin,go_sem,implies_true,true_and,and_true,List.reverse_cons,List.reverse_nil]
    exact ⟨hat,hlp,.inl hf⟩
end Go.Proofs.YtoafigpikgigaaaGreatDoor
