/- Contracts of functions that the claim reaches: what each call gives, told in our own logic. Conditions: those of each theorem. -/
import Derived.Test.YtoafigpikgigaaaGreatDoorY5a
import Derived.Test.YtoafigpikgigaaaGreatDoorW9
open List (length_map)
set_option linter.all false
set_option linter.unusedSimpArgs false
set_option linter.unusedVariables false
namespace Go.Proofs.YtoafigpikgigaaaGreatDoor
open Go.Av Go.Txt Go.Lib
attribute [local irreducible] thenA blockA awp awpOps awpD awp1
attribute [local go_sem_proc] Nat.reduceAdd Nat.reduceMul Nat.reduceEqDiff Nat.reduceBEq Nat.reduceLeDiff
attribute [local go_sem_proc ↓] reduceIte
attribute [local go_sem] if_yes if_no
set_option maxHeartbeats 16000000
set_option maxRecDepth 20000
theorem rd_okR (h:AH) (text:List UInt8) (rows body:List (List UInt8)) (nb:Nat) (hbody:body=rows.take nb) (hnb:nb=rows.length - 1) (hr1:1≤rows.length) (hrl:rows.length≤4001) (hbl:body.length=nb) (hbs:∀ x ∈ body,x.length≤4000) (m:Nat) (hm:h.clk < m)
  (i:Nat) (v1 v2 v3:AV) (rs:List Int) (ss:List Sx) (gs:List Gp) (sp:Int) (e:Bool) (g:AH) (c:Nat) (ha:rInv h body nb ⟨i,v1,v2,v3,⟨⟨rs,ss,gs,sp⟩,e⟩,g⟩) (hc:g.clk≤c) (hil:i < nb) (st':LSt) (hst:stepR i ⟨⟨rs,ss,gs,sp⟩,e⟩ (body.getD i [])=some st') (hr2:runR 0 st0 body=runR (i+1) st' (body.drop (i+1)))
  (Q:Exit→AS→Prop) (LC:Code) (hLC:loopB Tryz.f13=some LC) :
  awp Tryz.prog tt ⟨189,[2,6,140],[81,107,140,145],none,[(18,[0,1,0,4,12,28,63,127,255],[(0,false),(1,true),(2,false),(3,false),(4,true),(5,false),(6,false),(7,false),(8,false)]),(20,[0,1,0,4,12,0,32,96,252,508,1023,2047,4095],[(0,false),(1,true),(2,false),(3,false),(4,true),(5,false),(6,false),(7,true),(8,false),(9,false),(10,false),(11,false),(12,false)]),(22,[0,1,0,4,12,0,32,96,252,0,512,1536,0,4096,12288,32256,0,65536,196608,0,524288,1572864,0,0,8388608,29360128,67108860,134217724,268435455,536870911,1073741823],[(0,false),(1,true),(2,false),(3,false),(4,true),(5,false),(6,false),(7,true),(8,false),(9,false),(10,false),(11,true),(12,false),(13,false),(14,true),(15,false),(16,false),(17,false),(18,true),(19,false),(20,false),(21,true),(22,false),(23,false),(24,false),(25,false),(26,false),(27,false),(28,false),(29,false),(30,false)]),(24,[0,1,3,0,8,24,63,0,255],[(0,false),(1,false),(2,true),(3,false),(4,true),(5,false),(6,false),(7,false),(8,false)])]⟩ LC (thenA (rNxt h body nb 8 [(2,.lptr (h.clk,2) 0),(3,.int .i64 0),(4,.int .i64 0),(5,.lst 1 (strs rows)),(6,.lptr (m,6) 0)] [(h.clk,2),(m,6)] (fun a=>[[.nils,.nils,.nils,.int .i64 0],rBx a]) i) Q) ⟨keep (rV 8 ⟨i,v1,v2,v3,⟨⟨rs,ss,gs,sp⟩,e⟩,g⟩ ++ [(2,.lptr (h.clk,2) 0),(3,.int .i64 0),(4,.int .i64 0),(5,.lst 1 (strs rows)),(6,.lptr (m,6) 0)]),keepB ([(h.clk,2),(m,6)].zip ((fun a=>[[.nils,.nils,.nils,.int .i64 0],rBx a]) ⟨i,v1,v2,v3,⟨⟨rs,ss,gs,sp⟩,e⟩,g⟩) ++ [].zip []),[],g.tick c⟩:=by
 obtain rfl:LC=_:=Option.some.inj (hLC.symm.trans (rfl:loopB Tryz.f13=some _))
 clear hLC
 obtain ⟨hi,hrun,hS1,hS2,hS3,hd12,hd13,hd23,hwl,hjl,hgl3,hat,hlp,hgl,hck⟩:=ha
 dsimp only at hi hrun hS1 hS2 hS3 hd12 hd13 hd23 hwl hjl hgl3 hat hlp hgl hck
 simp only[go_sem]
 have hn1:=hS1.noL
 have hc1:=hS1.cell
 have hn2:=hS2.noL
 have hc2:=hS2.cell
 have hn3:=hS3.noL
 have hc3:=hS3.cell
 have eN:((rows.length:Nat):Int) - 1=(nb:Nat):=by omega
 obtain ⟨row,hrow⟩:∃ row,row=body.getD i []:=⟨_,rfl⟩
 have hrl2:row.length≤4000:=hrow ▸ hbs _ (str_mem (by omega))
 have hrg:(strs rows).getD i []=[.str row]:=by rw [strs_getD (by omega),hrow,hbody];simp [List.getD_eq_getElem?_getD,List.getElem?_take,hil]
 have k37:=c42 row (by omega)
 have hle2:alen (tt 23) v2=some (ss.length:Int):=by simpa using SlA.alen (ti:=tt 23) hS2 rfl
 have hle3:alen (tt 24) v3=some (gs.length:Int):=by simpa using SlA.alen (ti:=tt 24) hS3 rfl
 have hnl:∀ (l:List Int) k,k < l.length→(l.map iv).getD k []=[.int .i64 (elt l k)]:=fun l k hk=>ivs_getD hk
 rw [← hrow] at hst
 unfold stepR at hst
 cases hp:rowP 7 row with
 | none=>rw [hp] at hst;cases hst
 | some wl =>
  obtain ⟨w,l⟩:=wl
  rw [parV,hp] at k37
  rw [hp] at hst
  simp only at k37 hst
  unfold stepL at hst
  cases e with
  | true=>rw [if_pos rfl] at hst;cases hst
  | false =>
   rw [if_neg (by simp)] at hst
   by_cases h_i:i=0
   case pos =>
    have f_i:(((i:Nat):Int)=0)=True:=eq_true (by omega)
    rw [if_pos h_i] at hst
    by_cases hX:w=wTown∧l.length=1
    case neg=>rw [if_neg hX] at hst;cases hst
    rw [if_pos hX] at hst
    obtain ⟨h_town,hl⟩:=hX
    cases hst
    have h_w:w=[116,111,119,110]:=h_town
    have f_town:(w=[116,111,119,110])=True:=eq_true h_w
    have f_sq:(w=[115,113,117,97,114,101])=False:=eq_false (by rw [h_w];decide)
    have f_st:(w=[115,116,114,101,101,116])=False:=eq_false (by rw [h_w];decide)
    have f_gr:(w=[103,114,111,117,112])=False:=eq_false (by rw [h_w];decide)
    have f_end:(w=[101,110,100])=False:=eq_false (by rw [h_w];decide)
    as_aux_lemma =>
     have hl0:=hnl l 0 (by omega)
     repeat' (first|refine st_seq_reg rfl (by first|(simp only[go_sem,sL,eN,hrg,hn1,hn2,hn3,hc1,hc2,hc3,hle2,hle3,Lm,f_town,f_sq,f_st,f_gr,f_end,f_i,hl0];rfl)|rfl) (by first|(simp only[go_sem,sL,eN,hrg,hn1,hn2,hn3,hc1,hc2,hc3,hle2,hle3,Lm,f_town,f_sq,f_st,f_gr,f_end,f_i,hl0];rfl)|rfl) ?_|refine st_reg rfl (by first|(simp only[go_sem,sL,eN,hrg,hn1,hn2,hn3,hc1,hc2,hc3,hle2,hle3,Lm,f_town,f_sq,f_st,f_gr,f_end,f_i,hl0];rfl)|rfl) (by first|(simp only[go_sem,sL,eN,hrg,hn1,hn2,hn3,hc1,hc2,hc3,hle2,hle3,Lm,f_town,f_sq,f_st,f_gr,f_end,f_i,hl0];rfl)|rfl) ?_|refine st_op ?_|refine st_det rfl (by simp (disch:=omega) only[go_sem,wr_i64,sL,eN,hrg,hn1,hn2,hn3,hc1,hc2,hc3,hle2,hle3,Lm,f_town,f_sq,f_st,f_gr,f_end,f_i,hl0];rfl) ?_|refine st_store (by simp (disch:=omega) only[go_sem,wr_i64,sL,eN,hrg,hn1,hn2,hn3,hc1,hc2,hc3,hle2,hle3,Lm,f_town,f_sq,f_st,f_gr,f_end,f_i,hl0];rfl) ?_|(refine st_pureE (by first|(simp (disch:=omega) only[go_sem,sL,eN,hrg,hn1,hn2,hn3,hc1,hc2,hc3,hle2,hle3,Lm,f_town,f_sq,f_st,f_gr,f_end,f_i,hl0];rfl)|rfl) rfl (k37) (by first|(simp only[go_sem,sL,eN,hrg,hn1,hn2,hn3,hc1,hc2,hc3,hle2,hle3,Lm,f_town,f_sq,f_st,f_gr,f_end,f_i,hl0];rfl)|rfl) (by intro n;first|(simp (disch:=omega) only[go_sem];rfl)|rfl) ?_;intro n hn)|refine st_gT rfl rfl rfl ?_|refine st_condT rfl ?_|refine st_condF rfl ?_|(refine st_condS rfl ?_ ?_ <;> intro hg <;> (try simp only[dcT,dcF,bnT,bnF] at hg))|refine st_nil ?_|refine st_tN ?_|refine st_seq ?_|refine st_block ?_|refine st_skip ?_|refine st_exit ?_|refine st_ret ?_|refine st_tE ?_|refine st_tR ?_|refine st_bN ?_|refine st_bR ?_)
     all_goals try (exfalso;omega)
     refine ⟨⟨i+1,v1,v2,v3,⟨⟨rs,ss,gs,elt l 0⟩,false⟩,_⟩,(by exact ⟨by show i+1≤nb;omega,hr2,hS1.to (fun _ _ _ _ _=>rfl) (by (try simp only[go_sem]);omega),hS2.to (fun _ _ _ _ _=>rfl) (by (try simp only[go_sem]);omega),hS3.to (fun _ _ _ _ _=>rfl) (by (try simp only[go_sem]);omega),hd12,hd13,hd23,by show rs.length≤i+1;omega,by show ss.length≤i+1;omega,by show gs.length≤i+1;omega,hat,hlp,hgl,by (try simp only[go_sem]);omega⟩),(by show nb - (i+1) < nb - i;omega),(by repeat' (first|exact trivial|refine And.intro ?_ ?_|rfl|(simp (disch:=omega) only[go_sem,if_yes,if_no,if_no];rfl)|(simp (disch:=omega) only[go_sem,if_yes,if_no,if_no]))),(by repeat' (first|exact trivial|refine And.intro ?_ ?_|rfl|(simp (disch:=omega) only[go_sem,if_yes,if_no,if_no];rfl)|(simp (disch:=omega) only[go_sem,if_yes,if_no,if_no]))),rfl,HOld.refl _⟩
   have f_i:(((i:Nat):Int)=0)=False:=eq_false (by omega)
   rw [if_neg h_i] at hst
   by_cases hX:w=wSq∧l.length=1∧ss.length=0∧gs.length=0
   case pos =>
    rw [if_pos hX] at hst
    obtain ⟨h_sq,hl,hj,hg0⟩:=hX
    cases hst
    have h_w:w=[115,113,117,97,114,101]:=h_sq
    have f_town:(w=[116,111,119,110])=False:=eq_false (by rw [h_w];decide)
    have f_sq:(w=[115,113,117,97,114,101])=True:=eq_true h_w
    have f_st:(w=[115,116,114,101,101,116])=False:=eq_false (by rw [h_w];decide)
    have f_gr:(w=[103,114,111,117,112])=False:=eq_false (by rw [h_w];decide)
    have f_end:(w=[101,110,100])=False:=eq_false (by rw [h_w];decide)
    as_aux_lemma =>
     have hl0:=hnl l 0 (by omega)
     have hz2:(((ss.length:Nat):Int)=0)=True:=eq_true (by omega)
     have hz3:(((gs.length:Nat):Int)=0)=True:=eq_true (by omega)
     repeat' (first|refine st_seq_reg rfl (by first|(simp only[go_sem,sL,eN,hrg,hn1,hn2,hn3,hc1,hc2,hc3,hle2,hle3,Lm,f_town,f_sq,f_st,f_gr,f_end,f_i,hz2,hz3,hl0];rfl)|rfl) (by first|(simp only[go_sem,sL,eN,hrg,hn1,hn2,hn3,hc1,hc2,hc3,hle2,hle3,Lm,f_town,f_sq,f_st,f_gr,f_end,f_i,hz2,hz3,hl0];rfl)|rfl) ?_|refine st_reg rfl (by first|(simp only[go_sem,sL,eN,hrg,hn1,hn2,hn3,hc1,hc2,hc3,hle2,hle3,Lm,f_town,f_sq,f_st,f_gr,f_end,f_i,hz2,hz3,hl0];rfl)|rfl) (by first|(simp only[go_sem,sL,eN,hrg,hn1,hn2,hn3,hc1,hc2,hc3,hle2,hle3,Lm,f_town,f_sq,f_st,f_gr,f_end,f_i,hz2,hz3,hl0];rfl)|rfl) ?_|refine st_draw rfl (by first|(simp only[go_sem,sL,eN,hrg,hn1,hn2,hn3,hc1,hc2,hc3,hle2,hle3,Lm,f_town,f_sq,f_st,f_gr,f_end,f_i,hz2,hz3,hl0];rfl)|rfl) (by first|(simp only[go_sem,sL,eN,hrg,hn1,hn2,hn3,hc1,hc2,hc3,hle2,hle3,Lm,f_town,f_sq,f_st,f_gr,f_end,f_i,hz2,hz3,hl0];rfl)|rfl) ?_|refine st_op ?_|refine st_det rfl (by simp (disch:=omega) only[go_sem,wr_i64,sL,eN,hrg,hn1,hn2,hn3,hc1,hc2,hc3,hle2,hle3,Lm,f_town,f_sq,f_st,f_gr,f_end,f_i,hz2,hz3,hl0];rfl) ?_|refine st_dop rfl ?_|refine st_store (by simp (disch:=omega) only[go_sem,wr_i64,sL,eN,hrg,hn1,hn2,hn3,hc1,hc2,hc3,hle2,hle3,Lm,f_town,f_sq,f_st,f_gr,f_end,f_i,hz2,hz3,hl0];rfl) ?_|(refine st_pureE (by first|(simp (disch:=omega) only[go_sem,sL,eN,hrg,hn1,hn2,hn3,hc1,hc2,hc3,hle2,hle3,Lm,f_town,f_sq,f_st,f_gr,f_end,f_i,hz2,hz3,hl0];rfl)|rfl) rfl (k37) (by first|(simp only[go_sem,sL,eN,hrg,hn1,hn2,hn3,hc1,hc2,hc3,hle2,hle3,Lm,f_town,f_sq,f_st,f_gr,f_end,f_i,hz2,hz3,hl0];rfl)|rfl) (by intro n;first|(simp (disch:=omega) only[go_sem];rfl)|rfl) ?_;intro n hn)|(refine st_appSg (by intro h id x y;simp only[go_sem];rfl) rfl (by simp only[go_sem,sL,eN,hrg,hn1,hn2,hn3,hc1,hc2,hc3,hle2,hle3,Lm,f_town,f_sq,f_st,f_gr,f_end,f_i,hz2,hz3,hl0];rfl) (by first|(simp only[go_sem,sL,eN,hrg,hn1,hn2,hn3,hc1,hc2,hc3,hle2,hle3,Lm,f_town,f_sq,f_st,f_gr,f_end,f_i,hz2,hz3,hl0];rfl)|rfl) (by decide) hS1 (fun _ _ _=>rfl) (by omega) (by simp only[Lm,List.length_cons,List.length_nil,big,sL,eN,hrg,hn1,hn2,hn3,hc1,hc2,hc3,hle2,hle3,Lm,f_town,f_sq,f_st,f_gr,f_end,f_i,hz2,hz3,hl0];omega) (by omega) (by omega) ?_;intro v' g' hA hAg)|refine st_gT rfl rfl rfl ?_|refine st_gF rfl rfl rfl ?_|(refine st_gS rfl rfl ?_ ?_ <;> intro hg <;> (try simp only[dcT,dcF,bnT,bnF] at hg))|refine st_condT rfl ?_|refine st_condF rfl ?_|(refine st_condS rfl ?_ ?_ <;> intro hg <;> (try simp only[dcT,dcF,bnT,bnF] at hg))|refine st_nil ?_|refine st_tN ?_|refine st_seq ?_|refine st_block ?_|refine st_skip ?_|refine st_exit ?_|refine st_ret ?_|refine st_tE ?_|refine st_tR ?_|refine st_bN ?_|refine st_bR ?_)
     all_goals try (exfalso;omega)
     have hcv:=hA.sl.cell
     have hnv:=hA.nol
     have hcs:=SlA.cells hA.sl
     repeat' (first|refine st_seq_reg rfl (by first|(simp only[go_sem,hcv,hnv,hcs];rfl)|rfl) (by first|(simp only[go_sem,hcv,hnv,hcs];rfl)|rfl) ?_|refine st_reg rfl (by first|(simp only[go_sem,hcv,hnv,hcs];rfl)|rfl) (by first|(simp only[go_sem,hcv,hnv,hcs];rfl)|rfl) ?_|refine st_op ?_|refine st_det rfl (by simp (disch:=omega) only[go_sem,wr_i64,hcv,hnv,hcs];rfl) ?_|refine st_store (by simp (disch:=omega) only[go_sem,wr_i64,hcv,hnv,hcs];rfl) ?_|refine st_condF rfl ?_|refine st_nil ?_|refine st_dnil ?_|refine st_tN ?_|refine st_skip ?_|refine st_bN ?_)
     have hdn2:Dis 1 2 v' v2:=by
      intro b k k' q q'
      rcases hA.new with e|e
      ·rw [e] at q;cases q
      ·rw [e] at q;injection q with q _ _;have:=(hS2.lt q').2.1;rw [← q] at this;simp only at this;omega
     have hdn3:Dis 1 7 v' v3:=by
      intro b k k' q q'
      rcases hA.new with e|e
      ·rw [e] at q;cases q
      ·rw [e] at q;injection q with q _ _;have:=(hS3.lt q').2.1;rw [← q] at this;simp only at this;omega
     refine ⟨⟨i+1,v',v2,v3,⟨⟨rs ++ [elt l 0],ss,gs,sp⟩,false⟩,_⟩,(by exact ⟨by show i+1≤nb;omega,hr2,by rw [List.map_append];exact hA.sl.to (fun _ _ _ _ _=>rfl) (by (try simp only[go_sem]);omega),hS2.to (fun b1 k q q1 q2=>hA.keep b1 (fun m' q'=>hd12 b1 m' k q' q) (fun q'=>by rw [q'] at q2;simp only[go_sem] at q2;omega)) (by (try simp only[go_sem]);omega),hS3.to (fun b1 k q q1 q2=>hA.keep b1 (fun m' q'=>hd13 b1 m' k q' q) (fun q'=>by rw [q'] at q2;simp only[go_sem] at q2;omega)) (by (try simp only[go_sem]);omega),hdn2,hdn3,hd23,by show (rs ++ [_]).length≤i+1;simp;omega,by show ss.length≤i+1;omega,by show gs.length≤i+1;omega,fun b' hb'=>(hA.old b' hb').trans (hat b' hb'),hA.lp.trans hlp,hAg.trans hgl,by (try simp only[go_sem]);omega⟩),(by show nb - (i+1) < nb - i;omega),(by repeat' (first|exact trivial|refine And.intro ?_ ?_|rfl|(simp (disch:=omega) only[go_sem,if_yes,if_no,if_no];rfl)|(simp (disch:=omega) only[go_sem,if_yes,if_no,if_no]))),(by repeat' (first|exact trivial|refine And.intro ?_ ?_|rfl|(simp (disch:=omega) only[go_sem,if_yes,if_no,if_no];rfl)|(simp (disch:=omega) only[go_sem,if_yes,if_no,if_no]))),rfl,HOld.refl _⟩
   rw [if_neg hX] at hst
   clear hX
   by_cases hX:w=wSt∧l.length=2∧gs.length=0
   case pos =>
    rw [if_pos hX] at hst
    obtain ⟨h_st,hl,hg0⟩:=hX
    cases hst
    have h_w:w=[115,116,114,101,101,116]:=h_st
    have f_town:(w=[116,111,119,110])=False:=eq_false (by rw [h_w];decide)
    have f_sq:(w=[115,113,117,97,114,101])=False:=eq_false (by rw [h_w];decide)
    have f_st:(w=[115,116,114,101,101,116])=True:=eq_true h_w
    have f_gr:(w=[103,114,111,117,112])=False:=eq_false (by rw [h_w];decide)
    have f_end:(w=[101,110,100])=False:=eq_false (by rw [h_w];decide)
    as_aux_lemma =>
     have hl0:=hnl l 0 (by omega)
     have hl1:=hnl l 1 (by omega)
     have hz:(((gs.length:Nat):Int)=0)=True:=eq_true (by omega)
     repeat' (first|refine st_seq_reg rfl (by first|(simp only[go_sem,sL,eN,hrg,hn1,hn2,hn3,hc1,hc2,hc3,hle2,hle3,Lm,f_town,f_sq,f_st,f_gr,f_end,f_i,hz,hl0,hl1];rfl)|rfl) (by first|(simp only[go_sem,sL,eN,hrg,hn1,hn2,hn3,hc1,hc2,hc3,hle2,hle3,Lm,f_town,f_sq,f_st,f_gr,f_end,f_i,hz,hl0,hl1];rfl)|rfl) ?_|refine st_reg rfl (by first|(simp only[go_sem,sL,eN,hrg,hn1,hn2,hn3,hc1,hc2,hc3,hle2,hle3,Lm,f_town,f_sq,f_st,f_gr,f_end,f_i,hz,hl0,hl1];rfl)|rfl) (by first|(simp only[go_sem,sL,eN,hrg,hn1,hn2,hn3,hc1,hc2,hc3,hle2,hle3,Lm,f_town,f_sq,f_st,f_gr,f_end,f_i,hz,hl0,hl1];rfl)|rfl) ?_|refine st_draw rfl (by first|(simp only[go_sem,sL,eN,hrg,hn1,hn2,hn3,hc1,hc2,hc3,hle2,hle3,Lm,f_town,f_sq,f_st,f_gr,f_end,f_i,hz,hl0,hl1];rfl)|rfl) (by first|(simp only[go_sem,sL,eN,hrg,hn1,hn2,hn3,hc1,hc2,hc3,hle2,hle3,Lm,f_town,f_sq,f_st,f_gr,f_end,f_i,hz,hl0,hl1];rfl)|rfl) ?_|refine st_op ?_|refine st_det rfl (by simp (disch:=omega) only[go_sem,wr_i64,sL,eN,hrg,hn1,hn2,hn3,hc1,hc2,hc3,hle2,hle3,Lm,f_town,f_sq,f_st,f_gr,f_end,f_i,hz,hl0,hl1];rfl) ?_|refine st_dop rfl ?_|refine st_store (by simp (disch:=omega) only[go_sem,wr_i64,sL,eN,hrg,hn1,hn2,hn3,hc1,hc2,hc3,hle2,hle3,Lm,f_town,f_sq,f_st,f_gr,f_end,f_i,hz,hl0,hl1];rfl) ?_|(refine st_pureE (by first|(simp (disch:=omega) only[go_sem,sL,eN,hrg,hn1,hn2,hn3,hc1,hc2,hc3,hle2,hle3,Lm,f_town,f_sq,f_st,f_gr,f_end,f_i,hz,hl0,hl1];rfl)|rfl) rfl (k37) (by first|(simp only[go_sem,sL,eN,hrg,hn1,hn2,hn3,hc1,hc2,hc3,hle2,hle3,Lm,f_town,f_sq,f_st,f_gr,f_end,f_i,hz,hl0,hl1];rfl)|rfl) (by intro n;first|(simp (disch:=omega) only[go_sem];rfl)|rfl) ?_;intro n hn)|(refine st_appSg (by intro h id x y;simp only[go_sem];rfl) rfl (by simp only[go_sem,sL,eN,hrg,hn1,hn2,hn3,hc1,hc2,hc3,hle2,hle3,Lm,f_town,f_sq,f_st,f_gr,f_end,f_i,hz,hl0,hl1];rfl) (by first|(simp only[go_sem,sL,eN,hrg,hn1,hn2,hn3,hc1,hc2,hc3,hle2,hle3,Lm,f_town,f_sq,f_st,f_gr,f_end,f_i,hz,hl0,hl1];rfl)|rfl) (by decide) hS2 (fun _ _ _=>rfl) (by omega) (by simp only[Lm,List.length_cons,List.length_nil,big,sL,eN,hrg,hn1,hn2,hn3,hc1,hc2,hc3,hle2,hle3,Lm,f_town,f_sq,f_st,f_gr,f_end,f_i,hz,hl0,hl1];omega) (by omega) (by omega) ?_;intro v' g' hA hAg)|refine st_gT rfl rfl rfl ?_|refine st_gF rfl rfl rfl ?_|(refine st_gS rfl rfl ?_ ?_ <;> intro hg <;> (try simp only[dcT,dcF,bnT,bnF] at hg))|refine st_condT rfl ?_|refine st_condF rfl ?_|(refine st_condS rfl ?_ ?_ <;> intro hg <;> (try simp only[dcT,dcF,bnT,bnF] at hg))|refine st_nil ?_|refine st_tN ?_|refine st_seq ?_|refine st_block ?_|refine st_skip ?_|refine st_exit ?_|refine st_ret ?_|refine st_tE ?_|refine st_tR ?_|refine st_bN ?_|refine st_bR ?_)
     all_goals try (exfalso;omega)
     have hcv:=hA.sl.cell
     have hnv:=hA.nol
     have hcs:=SlA.cells hA.sl
     repeat' (first|refine st_seq_reg rfl (by first|(simp only[go_sem,hcv,hnv,hcs];rfl)|rfl) (by first|(simp only[go_sem,hcv,hnv,hcs];rfl)|rfl) ?_|refine st_reg rfl (by first|(simp only[go_sem,hcv,hnv,hcs];rfl)|rfl) (by first|(simp only[go_sem,hcv,hnv,hcs];rfl)|rfl) ?_|refine st_op ?_|refine st_det rfl (by simp (disch:=omega) only[go_sem,wr_i64,hcv,hnv,hcs];rfl) ?_|refine st_store (by simp (disch:=omega) only[go_sem,wr_i64,hcv,hnv,hcs];rfl) ?_|refine st_condF rfl ?_|refine st_nil ?_|refine st_dnil ?_|refine st_tN ?_|refine st_skip ?_|refine st_bN ?_)
     have hdn1:Dis 1 2 v1 v':=by
      intro b k k' q q'
      rcases hA.new with e|e
      ·rw [e] at q';cases q'
      ·rw [e] at q';injection q' with q' _ _;have:=(hS1.lt q).2.1;rw [← q'] at this;simp only at this;omega
     have hdn3:Dis 2 7 v' v3:=by
      intro b k k' q q'
      rcases hA.new with e|e
      ·rw [e] at q;cases q
      ·rw [e] at q;injection q with q _ _;have:=(hS3.lt q').2.1;rw [← q] at this;simp only at this;omega
     refine ⟨⟨i+1,v1,v',v3,⟨⟨rs,ss ++ [⟨elt l 0,elt l 1⟩],gs,sp⟩,false⟩,_⟩,(by exact ⟨by show i+1≤nb;omega,hr2,hS1.to (fun b1 k q q1 q2=>hA.keep b1 (fun m' q'=>hd12 b1 k m' q q') (fun q'=>by rw [q'] at q2;simp only[go_sem] at q2;omega)) (by (try simp only[go_sem]);omega),by rw [List.map_append];exact hA.sl.to (fun _ _ _ _ _=>rfl) (by (try simp only[go_sem]);omega),hS3.to (fun b1 k q q1 q2=>hA.keep b1 (fun m' q'=>hd23 b1 m' k q' q) (fun q'=>by rw [q'] at q2;simp only[go_sem] at q2;omega)) (by (try simp only[go_sem]);omega),hdn1,hd13,hdn3,by show rs.length≤i+1;omega,by show (ss ++ [_]).length≤i+1;simp;omega,by show gs.length≤i+1;omega,fun b' hb'=>(hA.old b' hb').trans (hat b' hb'),hA.lp.trans hlp,hAg.trans hgl,by (try simp only[go_sem]);omega⟩),(by show nb - (i+1) < nb - i;omega),(by repeat' (first|exact trivial|refine And.intro ?_ ?_|rfl|(simp (disch:=omega) only[go_sem,if_yes,if_no,if_no];rfl)|(simp (disch:=omega) only[go_sem,if_yes,if_no,if_no]))),(by repeat' (first|exact trivial|refine And.intro ?_ ?_|rfl|(simp (disch:=omega) only[go_sem,if_yes,if_no,if_no];rfl)|(simp (disch:=omega) only[go_sem,if_yes,if_no,if_no]))),rfl,HOld.refl _⟩
   rw [if_neg hX] at hst
   clear hX
   by_cases hX:w=wGr∧6≤l.length
   case pos =>
    rw [if_pos hX] at hst
    obtain ⟨h_gr,hl⟩:=hX
    cases hst
    have h_w:w=[103,114,111,117,112]:=h_gr
    have f_town:(w=[116,111,119,110])=False:=eq_false (by rw [h_w];decide)
    have f_sq:(w=[115,113,117,97,114,101])=False:=eq_false (by rw [h_w];decide)
    have f_st:(w=[115,116,114,101,101,116])=False:=eq_false (by rw [h_w];decide)
    have f_gr:(w=[103,114,111,117,112])=True:=eq_true h_w
    have f_end:(w=[101,110,100])=False:=eq_false (by rw [h_w];decide)
    as_aux_lemma =>
     have hl0:=hnl l 0 (by omega)
     have hl1:=hnl l 1 (by omega)
     have hl2:=hnl l 2 (by omega)
     have hl3:=hnl l 3 (by omega)
     have hl4:=hnl l 4 (by omega)
     have hl5:=hnl l 5 (by omega)
     have eD:List.take (l.length - Int.toNat 6) (List.drop (Int.toNat 6) (List.map iv l))=(l.drop 6).map iv:=by
      show List.take (l.length - 6) (List.drop 6 (List.map iv l))=_
      rw [← List.map_drop]
      exact List.take_of_length_le (by rw [Lm,List.length_drop];omega)
     have hll:l.length≤4001:=by have:=row_cnt hp;omega
     repeat' (first|refine st_seq_reg rfl (by first|(simp only[go_sem,sL,eN,hrg,hn1,hn2,hn3,hc1,hc2,hc3,hle2,hle3,Lm,List.length_drop,f_town,f_sq,f_st,f_gr,f_end,f_i,hl0,hl1,hl2,hl3,hl4,hl5,eD];rfl)|rfl) (by first|(simp only[go_sem,sL,eN,hrg,hn1,hn2,hn3,hc1,hc2,hc3,hle2,hle3,Lm,List.length_drop,f_town,f_sq,f_st,f_gr,f_end,f_i,hl0,hl1,hl2,hl3,hl4,hl5,eD];rfl)|rfl) ?_|refine st_reg rfl (by first|(simp only[go_sem,sL,eN,hrg,hn1,hn2,hn3,hc1,hc2,hc3,hle2,hle3,Lm,List.length_drop,f_town,f_sq,f_st,f_gr,f_end,f_i,hl0,hl1,hl2,hl3,hl4,hl5,eD];rfl)|rfl) (by first|(simp only[go_sem,sL,eN,hrg,hn1,hn2,hn3,hc1,hc2,hc3,hle2,hle3,Lm,List.length_drop,f_town,f_sq,f_st,f_gr,f_end,f_i,hl0,hl1,hl2,hl3,hl4,hl5,eD];rfl)|rfl) ?_|refine st_draw rfl (by first|(simp only[go_sem,sL,eN,hrg,hn1,hn2,hn3,hc1,hc2,hc3,hle2,hle3,Lm,List.length_drop,f_town,f_sq,f_st,f_gr,f_end,f_i,hl0,hl1,hl2,hl3,hl4,hl5,eD];rfl)|rfl) (by first|(simp only[go_sem,sL,eN,hrg,hn1,hn2,hn3,hc1,hc2,hc3,hle2,hle3,Lm,List.length_drop,f_town,f_sq,f_st,f_gr,f_end,f_i,hl0,hl1,hl2,hl3,hl4,hl5,eD];rfl)|rfl) ?_|refine st_op ?_|refine st_det rfl (by simp (disch:=omega) only[go_sem,wr_i64,sL,eN,hrg,hn1,hn2,hn3,hc1,hc2,hc3,hle2,hle3,Lm,List.length_drop,f_town,f_sq,f_st,f_gr,f_end,f_i,hl0,hl1,hl2,hl3,hl4,hl5,eD];rfl) ?_|refine st_dop rfl ?_|refine st_store (by simp (disch:=omega) only[go_sem,wr_i64,sL,eN,hrg,hn1,hn2,hn3,hc1,hc2,hc3,hle2,hle3,Lm,List.length_drop,f_town,f_sq,f_st,f_gr,f_end,f_i,hl0,hl1,hl2,hl3,hl4,hl5,eD];rfl) ?_|(refine st_pureE (by first|(simp (disch:=omega) only[go_sem,sL,eN,hrg,hn1,hn2,hn3,hc1,hc2,hc3,hle2,hle3,Lm,List.length_drop,f_town,f_sq,f_st,f_gr,f_end,f_i,hl0,hl1,hl2,hl3,hl4,hl5,eD];rfl)|rfl) rfl (k37) (by first|(simp only[go_sem,sL,eN,hrg,hn1,hn2,hn3,hc1,hc2,hc3,hle2,hle3,Lm,List.length_drop,f_town,f_sq,f_st,f_gr,f_end,f_i,hl0,hl1,hl2,hl3,hl4,hl5,eD];rfl)|rfl) (by intro n;first|(simp (disch:=omega) only[go_sem];rfl)|rfl) ?_;intro n hn)|(refine st_appI (m:=8) (by first|(simp only[go_sem,sL,eN,hrg,hn1,hn2,hn3,hc1,hc2,hc3,hle2,hle3,Lm,List.length_drop,f_town,f_sq,f_st,f_gr,f_end,f_i,hl0,hl1,hl2,hl3,hl4,hl5,eD];rfl)|rfl) rfl (by first|(simp only[go_sem,sL,eN,hrg,hn1,hn2,hn3,hc1,hc2,hc3,hle2,hle3,Lm,List.length_drop,f_town,f_sq,f_st,f_gr,f_end,f_i,hl0,hl1,hl2,hl3,hl4,hl5,eD];rfl)|rfl) (by rfl) (by first|(simp only[go_sem,sL,eN,hrg,hn1,hn2,hn3,hc1,hc2,hc3,hle2,hle3,Lm,List.length_drop,f_town,f_sq,f_st,f_gr,f_end,f_i,hl0,hl1,hl2,hl3,hl4,hl5,eD];rfl)|rfl) (by simp only[Lm,List.length_cons,List.length_nil,big,sL,eN,hrg,hn1,hn2,hn3,hc1,hc2,hc3,hle2,hle3,Lm,List.length_drop,f_town,f_sq,f_st,f_gr,f_end,f_i,hl0,hl1,hl2,hl3,hl4,hl5,eD];omega) ?_)|(refine st_appSg (by intro h id x y;simp only[go_sem];rfl) rfl (by simp only[go_sem,sL,eN,hrg,hn1,hn2,hn3,hc1,hc2,hc3,hle2,hle3,Lm,List.length_drop,f_town,f_sq,f_st,f_gr,f_end,f_i,hl0,hl1,hl2,hl3,hl4,hl5,eD];rfl) (by first|(simp only[go_sem,sL,eN,hrg,hn1,hn2,hn3,hc1,hc2,hc3,hle2,hle3,Lm,List.length_drop,f_town,f_sq,f_st,f_gr,f_end,f_i,hl0,hl1,hl2,hl3,hl4,hl5,eD];rfl)|rfl) (by decide) hS3 (fun _ _ _=>rfl) (by omega) (by simp only[Lm,List.length_cons,List.length_nil,big,sL,eN,hrg,hn1,hn2,hn3,hc1,hc2,hc3,hle2,hle3,Lm,List.length_drop,f_town,f_sq,f_st,f_gr,f_end,f_i,hl0,hl1,hl2,hl3,hl4,hl5,eD];omega) (by omega) (by omega) ?_;intro v' g' hA hAg)|refine st_gT rfl rfl rfl ?_|refine st_gF rfl rfl rfl ?_|refine st_condT rfl ?_|refine st_condF rfl ?_|(refine st_condS rfl ?_ ?_ <;> intro hg <;> (try simp only[dcT,dcF,bnT,bnF] at hg))|refine st_nil ?_|refine st_tN ?_|refine st_seq ?_|refine st_block ?_|refine st_skip ?_|refine st_exit ?_|refine st_ret ?_|refine st_tE ?_|refine st_tR ?_|refine st_bN ?_|refine st_bR ?_)
     all_goals try (exfalso;omega)
     have hcv:=hA.sl.cell
     have hnv:=hA.nol
     have hcs:=SlA.cells hA.sl
     repeat' (first|refine st_seq_reg rfl (by first|(simp only[go_sem,hcv,hnv,hcs];rfl)|rfl) (by first|(simp only[go_sem,hcv,hnv,hcs];rfl)|rfl) ?_|refine st_reg rfl (by first|(simp only[go_sem,hcv,hnv,hcs];rfl)|rfl) (by first|(simp only[go_sem,hcv,hnv,hcs];rfl)|rfl) ?_|refine st_op ?_|refine st_det rfl (by simp (disch:=omega) only[go_sem,wr_i64,hcv,hnv,hcs];rfl) ?_|refine st_store (by simp (disch:=omega) only[go_sem,wr_i64,hcv,hnv,hcs];rfl) ?_|refine st_condF rfl ?_|refine st_nil ?_|refine st_dnil ?_|refine st_tN ?_|refine st_skip ?_|refine st_bN ?_)
     have hdn1:Dis 1 7 v1 v':=by
      intro b k k' q q'
      rcases hA.new with e|e
      ·rw [e] at q';cases q'
      ·rw [e] at q';injection q' with q' _ _;have:=(hS1.lt q).2.1;rw [← q'] at this;simp only at this;omega
     have hdn2:Dis 2 7 v2 v':=by
      intro b k k' q q'
      rcases hA.new with e|e
      ·rw [e] at q';cases q'
      ·rw [e] at q';injection q' with q' _ _;have:=(hS2.lt q).2.1;rw [← q'] at this;simp only at this;omega
     refine ⟨⟨i+1,v1,v2,v',⟨⟨rs,ss,gs ++ [⟨elt l 0,elt l 1,elt l 2,elt l 3,elt l 4,elt l 5,l.drop 6⟩],sp⟩,false⟩,_⟩,(by exact ⟨by show i+1≤nb;omega,hr2,hS1.to (fun b1 k q q1 q2=>hA.keep b1 (fun m' q'=>hd13 b1 k m' q q') (fun q'=>by rw [q'] at q2;simp only[go_sem] at q2;omega)) (by (try simp only[go_sem]);omega),hS2.to (fun b1 k q q1 q2=>hA.keep b1 (fun m' q'=>hd23 b1 k m' q q') (fun q'=>by rw [q'] at q2;simp only[go_sem] at q2;omega)) (by (try simp only[go_sem]);omega),by rw [List.map_append];exact hA.sl.to (fun _ _ _ _ _=>rfl) (by (try simp only[go_sem]);omega),hd12,hdn1,hdn2,by show rs.length≤i+1;omega,by show ss.length≤i+1;omega,by show (gs ++ [_]).length≤i+1;simp;omega,fun b' hb'=>(hA.old b' hb').trans (hat b' hb'),hA.lp.trans hlp,hAg.trans hgl,by (try simp only[go_sem]);omega⟩),(by show nb - (i+1) < nb - i;omega),(by repeat' (first|exact trivial|refine And.intro ?_ ?_|rfl|(simp (disch:=omega) only[go_sem,if_yes,if_no,if_no];rfl)|(simp (disch:=omega) only[go_sem,if_yes,if_no,if_no]))),(by repeat' (first|exact trivial|refine And.intro ?_ ?_|rfl|(simp (disch:=omega) only[go_sem,if_yes,if_no,if_no];rfl)|(simp (disch:=omega) only[go_sem,if_yes,if_no,if_no]))),rfl,HOld.refl _⟩
   rw [if_neg hX] at hst
   clear hX
   by_cases hX:w=wEnd∧l.length=1∧elt l 0=gs.length
   case neg=>rw [if_neg hX] at hst;cases hst
   rw [if_pos hX] at hst
   obtain ⟨h_end,hl,hq⟩:=hX
   cases hst
   have h_w:w=[101,110,100]:=h_end
   have f_town:(w=[116,111,119,110])=False:=eq_false (by rw [h_w];decide)
   have f_sq:(w=[115,113,117,97,114,101])=False:=eq_false (by rw [h_w];decide)
   have f_st:(w=[115,116,114,101,101,116])=False:=eq_false (by rw [h_w];decide)
   have f_gr:(w=[103,114,111,117,112])=False:=eq_false (by rw [h_w];decide)
   have f_end:(w=[101,110,100])=True:=eq_true h_w
   as_aux_lemma =>
    have hl0:=hnl l 0 (by omega)
    have hq1:(elt l (Int.toNat 0)=(gs.length:Int))=True:=eq_true hq
    repeat' (first|refine st_seq_reg rfl (by first|(simp only[go_sem,sL,eN,hrg,hn1,hn2,hn3,hc1,hc2,hc3,hle2,hle3,Lm,f_town,f_sq,f_st,f_gr,f_end,f_i,hl0,hq1,hq];rfl)|rfl) (by first|(simp only[go_sem,sL,eN,hrg,hn1,hn2,hn3,hc1,hc2,hc3,hle2,hle3,Lm,f_town,f_sq,f_st,f_gr,f_end,f_i,hl0,hq1,hq];rfl)|rfl) ?_|refine st_reg rfl (by first|(simp only[go_sem,sL,eN,hrg,hn1,hn2,hn3,hc1,hc2,hc3,hle2,hle3,Lm,f_town,f_sq,f_st,f_gr,f_end,f_i,hl0,hq1,hq];rfl)|rfl) (by first|(simp only[go_sem,sL,eN,hrg,hn1,hn2,hn3,hc1,hc2,hc3,hle2,hle3,Lm,f_town,f_sq,f_st,f_gr,f_end,f_i,hl0,hq1,hq];rfl)|rfl) ?_|refine st_draw rfl (by first|(simp only[go_sem,sL,eN,hrg,hn1,hn2,hn3,hc1,hc2,hc3,hle2,hle3,Lm,f_town,f_sq,f_st,f_gr,f_end,f_i,hl0,hq1,hq];rfl)|rfl) (by first|(simp only[go_sem,sL,eN,hrg,hn1,hn2,hn3,hc1,hc2,hc3,hle2,hle3,Lm,f_town,f_sq,f_st,f_gr,f_end,f_i,hl0,hq1,hq];rfl)|rfl) ?_|refine st_op ?_|refine st_det rfl (by simp (disch:=omega) only[go_sem,wr_i64,sL,eN,hrg,hn1,hn2,hn3,hc1,hc2,hc3,hle2,hle3,Lm,f_town,f_sq,f_st,f_gr,f_end,f_i,hl0,hq1,hq];rfl) ?_|refine st_dop rfl ?_|refine st_store (by simp (disch:=omega) only[go_sem,wr_i64,sL,eN,hrg,hn1,hn2,hn3,hc1,hc2,hc3,hle2,hle3,Lm,f_town,f_sq,f_st,f_gr,f_end,f_i,hl0,hq1,hq];rfl) ?_|(refine st_pureE (by first|(simp (disch:=omega) only[go_sem,sL,eN,hrg,hn1,hn2,hn3,hc1,hc2,hc3,hle2,hle3,Lm,f_town,f_sq,f_st,f_gr,f_end,f_i,hl0,hq1,hq];rfl)|rfl) rfl (k37) (by first|(simp only[go_sem,sL,eN,hrg,hn1,hn2,hn3,hc1,hc2,hc3,hle2,hle3,Lm,f_town,f_sq,f_st,f_gr,f_end,f_i,hl0,hq1,hq];rfl)|rfl) (by intro n;first|(simp (disch:=omega) only[go_sem];rfl)|rfl) ?_;intro n hn)|refine st_gT rfl rfl rfl ?_|refine st_gF rfl rfl rfl ?_|refine st_condT rfl ?_|refine st_condF rfl ?_|(refine st_condS rfl ?_ ?_ <;> intro hg <;> (try simp only[dcT,dcF,bnT,bnF] at hg))|refine st_nil ?_|refine st_dnil ?_|refine st_tN ?_|refine st_seq ?_|refine st_block ?_|refine st_skip ?_|refine st_exit ?_|refine st_ret ?_|refine st_tE ?_|refine st_tR ?_|refine st_bN ?_|refine st_bR ?_)
    all_goals try (exfalso;omega)
    refine ⟨⟨i+1,v1,v2,v3,⟨⟨rs,ss,gs,sp⟩,true⟩,_⟩,(by exact ⟨by show i+1≤nb;omega,hr2,hS1.to (fun _ _ _ _ _=>rfl) (by (try simp only[go_sem]);omega),hS2.to (fun _ _ _ _ _=>rfl) (by (try simp only[go_sem]);omega),hS3.to (fun _ _ _ _ _=>rfl) (by (try simp only[go_sem]);omega),hd12,hd13,hd23,by show rs.length≤i+1;omega,by show ss.length≤i+1;omega,by show gs.length≤i+1;omega,hat,hlp,hgl,by (try simp only[go_sem]);omega⟩),(by show nb - (i+1) < nb - i;omega),(by repeat' (first|exact trivial|refine And.intro ?_ ?_|rfl|(simp (disch:=omega) only[go_sem,if_yes,if_no,if_no];rfl)|(simp (disch:=omega) only[go_sem,if_yes,if_no,if_no]))),(by repeat' (first|exact trivial|refine And.intro ?_ ?_|rfl|(simp (disch:=omega) only[go_sem,if_yes,if_no,if_no];rfl)|(simp (disch:=omega) only[go_sem,if_yes,if_no,if_no]))),rfl,HOld.refl _⟩
end Go.Proofs.YtoafigpikgigaaaGreatDoor
