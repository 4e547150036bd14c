/- Contracts of functions that the claim reaches: what each call gives, told in our own logic. Conditions: those of each theorem. -/
import Derived.Test.YthjbfdfhblloiaaW3
import Derived.Test.YthjbfdfhblloiaaW14
import Derived.Test.YthjbfdfhblloiaaQ29
open Nat (reduceAdd reduceMul reduceEqDiff reduceLeDiff)
open List (length_map)
set_option linter.all false
set_option linter.unusedSimpArgs false
set_option linter.unusedVariables false
namespace Go.Proofs.Ythjbfdfhblloiaa
open Go.Av
attribute [local irreducible] thenA blockA awp awpOps awpD awp1
set_option maxHeartbeats 8000000
set_option maxRecDepth 20000
structure MyS where
  k:Nat
  c:Nat
  g:AH
theorem c88 (t:Tw) (s:List Int) (g:Gp) (step:Int) (hT:TwOk t) (hG:GpOk t g) (hsl:s.length=t.sts.length) (hs':0≤step∧step≤96):Pure Try.prog 88 [t.av,.lst 1 (s.map iv),.agg g.row,.int .i64 step] (fun v=>v=.tup [.lst 1 (bl (t.rooms.length+1) (mayB t (elt s) g step (plN g))),.bool (oneB t (elt s) g step)]):=by
  have hrn:=hT.rn
  have hat:=hG.at_
  have ht0:t.av=.agg t.cells:=rfl
  have hpn:(plN g:Int)=g.ahi - g.alo+1:=by unfold plN;omega
  refine Pure.give Try.call88 fun h hall=>?_
  refine ACalls.of tab mixed Try.call88 Try.func88 rfl (fi:=⟨57,[],[4,6],none,[]⟩) rfl rfl (Nat.le_of_ble_eq_true rfl) (by decide) ?_
  unfold startA
  rw [ht0]
  unfold Tw.cells
  have hR1:((t.rooms.length:Int)+1).toNat=t.rooms.length+1:=by omega
  repeat' (first|refine st_seq_reg rfl (by first|(simp only[go_sem,length_map,bl_rep,bl_len,Nat.zero_add,hR1];rfl)|rfl) (by first|(simp only[go_sem,length_map,bl_rep,bl_len,Nat.zero_add,hR1];rfl)|rfl) ?_|refine st_op ?_|refine st_det rfl (by simp (disch:=omega) only[go_sem,wr_i64,if_yes,if_no,↓reduceIte,reduceAdd,reduceMul,reduceEqDiff,Nat.reduceBEq,reduceLeDiff,length_map,bl_rep,bl_len,Nat.zero_add,hR1];rfl) ?_|refine st_heap rfl (by simp (disch:=omega) only[go_sem,wr_i64,if_yes,if_no,↓reduceIte,reduceAdd,reduceMul,reduceEqDiff,Nat.reduceBEq,reduceLeDiff,length_map,bl_rep,bl_len,Nat.zero_add,hR1];rfl) ?_|refine st_nil ?_|refine st_seq ?_|refine st_block ?_)
  all_goals try (exfalso;omega)
  have nbo:∀ b':Bid,b'.1 < h.clk→¬ b'=(h.clk+1,18):=fun b' hb'=>ne_fst hb' (by show h.clk≤h.clk+1;omega)
  have h00':∀ q,mayB t (elt s) g step 0 q=false:=fun q=>by unfold mayB someN;split <;> rfl
  refine st_loopH (α:=MyS) tab mixed [] [] (by repeat (first|exact trivial|refine ⟨rfl,?_⟩)) [] [] (by repeat (first|exact trivial|refine ⟨rfl,?_⟩)) (fun a=>[(12,.int .i64 (g.alo+(a.k:Nat))),(11,.int .i64 (a.c:Nat))]) [(1,_),(3,_),(4,_),(6,_),(10,_)] (fun _=>[]) [] (fun a=>a.g) (fun a=>a.k≤plN g∧a.g.at_ (h.clk+1,18)=some ⟨1,bl (t.rooms.length+1) (mayB t (elt s) g step a.k)⟩∧h.clk+1 < a.g.clk∧(∀ b':Bid,b'.1 < h.clk→a.g.at_ b'=h.at_ b')∧a.g.lp=h.lp∧a.c=cntB (mayB t (elt s) g step a.k) (t.rooms.length+1)) (fun a=>plN g - a.k) (by decide) ⟨0,0,_⟩ (by refine ⟨Nat.zero_le _,by simp only[go_sem,↓reduceIte];exact congrArg (fun l=>some (⟨1,l⟩:Blk)) (bl_congr fun q _=>(h00' q).symm),by simp only[go_sem];omega,fun b' hb'=>by simp only[go_sem,if_neg (nbo b' hb')],rfl,(cntB_zero fun q _=>h00' q).symm⟩) (by (try simp only[go_sem]);repeat' (first|exact trivial|refine And.intro ?_ ?_|rfl|(simp (disch:=omega) only[go_sem,if_yes,if_no,↓reduceIte,reduceAdd,reduceMul,reduceEqDiff,Nat.reduceBEq,reduceLeDiff];rfl)|(simp (disch:=omega) only[go_sem,if_yes,if_no,↓reduceIte,reduceAdd,reduceMul,reduceEqDiff,Nat.reduceBEq,reduceLeDiff]))) (by (try simp only[go_sem]);repeat' (first|exact trivial|refine And.intro ?_ ?_|rfl|(simp (disch:=omega) only[go_sem,if_yes,if_no,↓reduceIte,reduceAdd,reduceMul,reduceEqDiff,Nat.reduceBEq,reduceLeDiff];rfl)|(simp (disch:=omega) only[go_sem,if_yes,if_no,↓reduceIte,reduceAdd,reduceMul,reduceEqDiff,Nat.reduceBEq,reduceLeDiff]))) (HOld.refl _) ?_
  rintro ⟨k,cc,G⟩ d ⟨i1,i2,i3,i4,i5,i6⟩ hd
  dsimp only at i1 i2 i3 i4 i5 i6 hd
  simp only[go_sem]
  have hcl:=cntB_le (mayB t (elt s) g step k) (t.rooms.length+1)
  by_cases hk:k < plN g
  case neg =>
    obtain rfl:k=plN g:=by omega
    repeat' (first|refine st_seq_reg rfl (by first|(simp only[go_sem];rfl)|rfl) (by first|(simp only[go_sem];rfl)|rfl) ?_|refine st_op ?_|refine st_det rfl (by simp (disch:=omega) only[go_sem,wr_i64,if_yes,if_no,↓reduceIte,reduceAdd,reduceMul,reduceEqDiff,Nat.reduceBEq,reduceLeDiff];rfl) ?_|(refine st_condS rfl ?_ ?_ <;> intro hg <;> (try simp only[decide_eq_true_eq,decide_eq_false_iff_not,Bool.not_eq_true',Bool.not_eq_false'] at hg))|refine st_nil ?_|refine st_tN ?_|refine st_seq ?_|refine st_block ?_|refine st_skip ?_|refine st_exit ?_|refine st_ret ?_|refine st_tE ?_|refine st_bH ?_)
    all_goals try (exfalso;omega)
    simp (disch:=omega) only[AEnd,Try.results88,aresK,fin,go_sem,↓reduceIte,reduceEqDiff,reduceAdd,reduceLeDiff,if_yes,if_no,implies_true,true_and,and_true,List.reverse_cons,List.reverse_nil]
    refine ⟨i4,i5,.inr ⟨(h.clk+1,18),_,by show h.clk≤h.clk+1;omega,i2,?_⟩⟩
    simp only[frz,frzs]
    rw [if_pos ⟨trivial,by rw [bl_len];omega⟩,List.drop_zero,List.take_of_length_le (by rw [bl_len];exact Nat.le_refl _)]
    have e1:decide ((cc:Int)=1)=oneB t (elt s) g step:=by
      unfold oneB
      rw [i6]
      by_cases e:cntB (mayB t (elt s) g step (plN g)) (t.rooms.length+1)=1
      · rw [decide_eq_true e,decide_eq_true (by omega)]
      · rw [decide_eq_false e,decide_eq_false (by omega)]
    rw [e1]
  have k84:=c84 t s g (g.alo+(k:Nat)) step hT hG hsl ⟨by omega,by omega⟩ hs'
  have hge:=plc_ge2 hG (elt s) (g.alo+(k:Nat)) step
  have hlt:=plc_lt hT hG (elt s) (g.alo+(k:Nat)) step
  generalize hp:plc t (elt s) g (g.alo+(k:Nat)) step=p at *
  by_cases hp2:p = -2
  · subst hp2
    have hsm:∀ q,q < t.rooms.length+1→mayB t (elt s) g step (k+1) q=mayB t (elt s) g step k q:=fun q _=>mayB_skip hp q
    have hcn:=cntB_congr hsm
    repeat' (first|refine st_seq_reg rfl (by first|(simp only[go_sem,length_map,i2,bl_len,Nat.zero_add];rfl)|rfl) (by first|(simp only[go_sem,length_map,i2,bl_len,Nat.zero_add];rfl)|rfl) ?_|refine st_reg rfl (by first|(simp only[go_sem,length_map,i2,bl_len,Nat.zero_add];rfl)|rfl) (by first|(simp only[go_sem,length_map,i2,bl_len,Nat.zero_add];rfl)|rfl) ?_|refine st_op ?_|refine st_det rfl (by simp (disch:=omega) only[go_sem,wr_i64,if_yes,if_no,↓reduceIte,reduceAdd,reduceMul,reduceEqDiff,Nat.reduceBEq,reduceLeDiff,length_map,i2,bl_len,Nat.zero_add];rfl) ?_|(refine st_pureE (by first|(simp (disch:=omega) only[go_sem,length_map,i2,bl_len,Nat.zero_add];rfl)|rfl) rfl (k84) (by first|(simp only[go_sem,length_map,i2,bl_len,Nat.zero_add];rfl)|rfl) (by intro n;first|(simp (disch:=omega) only[go_sem];rfl)|rfl) ?_;intro n hn)|refine st_gF rfl rfl rfl ?_|refine st_condF rfl ?_|(refine st_condS rfl ?_ ?_ <;> intro hg <;> (try simp only[decide_eq_true_eq,decide_eq_false_iff_not,Bool.not_eq_true',Bool.not_eq_false'] at hg))|refine st_nil ?_|refine st_tN ?_|refine st_seq ?_|refine st_block ?_|refine st_skip ?_|refine st_exit ?_|refine st_ret ?_|refine st_tE ?_|refine st_bN ?_|refine st_bH ?_)
    all_goals try (exfalso;omega)
    all_goals
      refine ⟨⟨k+1,cc,_⟩,(by refine ⟨by show k+1≤_;omega,by simp only[go_sem];rw [i2];exact congrArg (fun l=>some (⟨1,l⟩:Blk)) (bl_congr fun q hq=>(hsm q hq).symm),by simp only[go_sem];omega,fun b' hb'=>i4 b' hb',i5,by rw [i6];exact hcn.symm⟩),by show plN g - (k+1) < plN g - k;omega,(by (try (try simp only[add_s,go_sem]));repeat' (first|exact trivial|refine And.intro ?_ ?_|rfl|(simp (disch:=omega) only[go_sem,if_yes,if_no,↓reduceIte,reduceAdd,reduceMul,reduceEqDiff,Nat.reduceBEq,reduceLeDiff];rfl)|(simp (disch:=omega) only[go_sem,if_yes,if_no,↓reduceIte,reduceAdd,reduceMul,reduceEqDiff,Nat.reduceBEq,reduceLeDiff]))),(by (try (try simp only[add_s,go_sem]));repeat' (first|exact trivial|refine And.intro ?_ ?_|rfl|(simp (disch:=omega) only[go_sem,if_yes,if_no,↓reduceIte,reduceAdd,reduceMul,reduceEqDiff,Nat.reduceBEq,reduceLeDiff];rfl)|(simp (disch:=omega) only[go_sem,if_yes,if_no,↓reduceIte,reduceAdd,reduceMul,reduceEqDiff,Nat.reduceBEq,reduceLeDiff]))),rfl,HOld.refl _⟩
  by_cases hp1:p = -1
  · subst hp1
    have hjR:t.rooms.length < t.rooms.length+1:=by omega
    have hnx:=fun q (hq:q < t.rooms.length+1)=>mayB_next (f:=elt s) (st:=step) hp t.rooms.length (by first|exact .inl ⟨rfl,rfl⟩|exact .inr ⟨rfl,by omega⟩) q (by omega)
    have hgj:=bl_get (f:=mayB t (elt s) g step k) hjR
    cases hB:mayB t (elt s) g step k t.rooms.length with
    | true =>
      rw [hB] at hgj
      have hsm:∀ q,q < t.rooms.length+1→mayB t (elt s) g step (k+1) q=mayB t (elt s) g step k q:=fun q hq=>by
        rw [hnx q hq]
        by_cases e:q=t.rooms.length
        · rw [if_pos e,e,hB]
        · rw [if_neg e]
      have hcn:=cntB_congr hsm
      repeat' (first|refine st_seq_reg rfl (by first|(simp only[go_sem,length_map,i2,bl_len,Nat.zero_add,hgj];rfl)|rfl) (by first|(simp only[go_sem,length_map,i2,bl_len,Nat.zero_add,hgj];rfl)|rfl) ?_|refine st_reg rfl (by first|(simp only[go_sem,length_map,i2,bl_len,Nat.zero_add,hgj];rfl)|rfl) (by first|(simp only[go_sem,length_map,i2,bl_len,Nat.zero_add,hgj];rfl)|rfl) ?_|refine st_op ?_|refine st_det rfl (by simp (disch:=omega) only[go_sem,wr_i64,if_yes,if_no,↓reduceIte,reduceAdd,reduceMul,reduceEqDiff,Nat.reduceBEq,reduceLeDiff,length_map,i2,bl_len,Nat.zero_add,hgj];rfl) ?_|(refine st_pureE (by first|(simp (disch:=omega) only[go_sem,length_map,i2,bl_len,Nat.zero_add,hgj];rfl)|rfl) rfl (k84) (by first|(simp only[go_sem,length_map,i2,bl_len,Nat.zero_add,hgj];rfl)|rfl) (by intro n;first|(simp (disch:=omega) only[go_sem];rfl)|rfl) ?_;intro n hn)|refine st_gT rfl rfl rfl ?_|refine st_condT rfl ?_|refine st_condF rfl ?_|(refine st_condS rfl ?_ ?_ <;> intro hg <;> (try simp only[decide_eq_true_eq,decide_eq_false_iff_not,Bool.not_eq_true',Bool.not_eq_false'] at hg))|refine st_nil ?_|refine st_tN ?_|refine st_seq ?_|refine st_block ?_|refine st_skip ?_|refine st_exit ?_|refine st_ret ?_|refine st_tE ?_|refine st_bN ?_|refine st_bH ?_)
      all_goals try (exfalso;omega)
      all_goals
        refine ⟨⟨k+1,cc,_⟩,(by refine ⟨by show k+1≤_;omega,by simp only[go_sem];rw [i2];exact congrArg (fun l=>some (⟨1,l⟩:Blk)) (bl_congr fun q hq=>(hsm q hq).symm),by simp only[go_sem];omega,fun b' hb'=>i4 b' hb',i5,by rw [i6];exact hcn.symm⟩),by show plN g - (k+1) < plN g - k;omega,(by (try (try simp only[add_s,go_sem]));repeat' (first|exact trivial|refine And.intro ?_ ?_|rfl|(simp (disch:=omega) only[go_sem,if_yes,if_no,↓reduceIte,reduceAdd,reduceMul,reduceEqDiff,Nat.reduceBEq,reduceLeDiff];rfl)|(simp (disch:=omega) only[go_sem,if_yes,if_no,↓reduceIte,reduceAdd,reduceMul,reduceEqDiff,Nat.reduceBEq,reduceLeDiff]))),(by (try (try simp only[add_s,go_sem]));repeat' (first|exact trivial|refine And.intro ?_ ?_|rfl|(simp (disch:=omega) only[go_sem,if_yes,if_no,↓reduceIte,reduceAdd,reduceMul,reduceEqDiff,Nat.reduceBEq,reduceLeDiff];rfl)|(simp (disch:=omega) only[go_sem,if_yes,if_no,↓reduceIte,reduceAdd,reduceMul,reduceEqDiff,Nat.reduceBEq,reduceLeDiff]))),rfl,HOld.refl _⟩
    | false =>
      rw [hB] at hgj
      have hset:(bl (t.rooms.length+1) (mayB t (elt s) g step k)).set t.rooms.length [.bool true]=bl (t.rooms.length+1) (mayB t (elt s) g step (k+1)):=by
        rw [bl_set hjR]
        exact bl_congr fun q hq=>(hnx q hq).symm
      have hcn:cntB (mayB t (elt s) g step (k+1)) (t.rooms.length+1)=cntB (mayB t (elt s) g step k) (t.rooms.length+1)+1:=by
        rw [cntB_congr hnx,cntB_set hB,if_pos hjR]
      repeat' (first|refine st_seq_reg rfl (by first|(simp only[go_sem,length_map,i2,bl_len,Nat.zero_add,hgj,hset];rfl)|rfl) (by first|(simp only[go_sem,length_map,i2,bl_len,Nat.zero_add,hgj,hset];rfl)|rfl) ?_|refine st_reg rfl (by first|(simp only[go_sem,length_map,i2,bl_len,Nat.zero_add,hgj,hset];rfl)|rfl) (by first|(simp only[go_sem,length_map,i2,bl_len,Nat.zero_add,hgj,hset];rfl)|rfl) ?_|refine st_op ?_|refine st_det rfl (by simp (disch:=omega) only[go_sem,wr_i64,if_yes,if_no,↓reduceIte,reduceAdd,reduceMul,reduceEqDiff,Nat.reduceBEq,reduceLeDiff,length_map,i2,bl_len,Nat.zero_add,hgj,hset];rfl) ?_|refine st_store (by simp (disch:=omega) only[go_sem,wr_i64,if_yes,if_no,↓reduceIte,reduceAdd,reduceMul,reduceEqDiff,Nat.reduceBEq,reduceLeDiff,length_map,i2,bl_len,Nat.zero_add,hgj,hset];rfl) ?_|(refine st_pureE (by first|(simp (disch:=omega) only[go_sem,length_map,i2,bl_len,Nat.zero_add,hgj,hset];rfl)|rfl) rfl (k84) (by first|(simp only[go_sem,length_map,i2,bl_len,Nat.zero_add,hgj,hset];rfl)|rfl) (by intro n;first|(simp (disch:=omega) only[go_sem];rfl)|rfl) ?_;intro n hn)|refine st_gT rfl rfl rfl ?_|refine st_condT rfl ?_|(refine st_condS rfl ?_ ?_ <;> intro hg <;> (try simp only[decide_eq_true_eq,decide_eq_false_iff_not,Bool.not_eq_true',Bool.not_eq_false'] at hg))|refine st_nil ?_|refine st_tN ?_|refine st_seq ?_|refine st_block ?_|refine st_skip ?_|refine st_exit ?_|refine st_ret ?_|refine st_tE ?_|refine st_bN ?_|refine st_bH ?_)
      all_goals try (exfalso;omega)
      all_goals
        refine ⟨⟨k+1,cc+1,_⟩,(by refine ⟨by show k+1≤_;omega,by simp only[go_sem,↓reduceIte],by simp only[go_sem];omega,fun b' hb'=>by simp only[go_sem,if_neg (nbo b' hb')];exact i4 b' hb',i5,by rw [i6];exact hcn.symm⟩),by show plN g - (k+1) < plN g - k;omega,(by (try (try simp only[add_s,go_sem]));repeat' (first|exact trivial|refine And.intro ?_ ?_|rfl|(simp (disch:=omega) only[go_sem,if_yes,if_no,↓reduceIte,reduceAdd,reduceMul,reduceEqDiff,Nat.reduceBEq,reduceLeDiff];rfl)|(simp (disch:=omega) only[go_sem,if_yes,if_no,↓reduceIte,reduceAdd,reduceMul,reduceEqDiff,Nat.reduceBEq,reduceLeDiff]))),(by (try (try simp only[add_s,go_sem]));repeat' (first|exact trivial|refine And.intro ?_ ?_|rfl|(simp (disch:=omega) only[go_sem,if_yes,if_no,↓reduceIte,reduceAdd,reduceMul,reduceEqDiff,Nat.reduceBEq,reduceLeDiff];rfl)|(simp (disch:=omega) only[go_sem,if_yes,if_no,↓reduceIte,reduceAdd,reduceMul,reduceEqDiff,Nat.reduceBEq,reduceLeDiff]))),rfl,HOld.refl _⟩
  · obtain ⟨j,rfl⟩:∃ m:Nat,p=m:=⟨p.toNat,by omega⟩
    have hjR:j < t.rooms.length+1:=by omega
    have hnx:=fun q (hq:q < t.rooms.length+1)=>mayB_next (f:=elt s) (st:=step) hp j (by first|exact .inl ⟨rfl,rfl⟩|exact .inr ⟨rfl,by omega⟩) q (by omega)
    have hgj:=bl_get (f:=mayB t (elt s) g step k) hjR
    cases hB:mayB t (elt s) g step k j with
    | true =>
      rw [hB] at hgj
      have hsm:∀ q,q < t.rooms.length+1→mayB t (elt s) g step (k+1) q=mayB t (elt s) g step k q:=fun q hq=>by
        rw [hnx q hq]
        by_cases e:q=j
        · rw [if_pos e,e,hB]
        · rw [if_neg e]
      have hcn:=cntB_congr hsm
      repeat' (first|refine st_seq_reg rfl (by first|(simp only[go_sem,length_map,i2,bl_len,Nat.zero_add,hgj];rfl)|rfl) (by first|(simp only[go_sem,length_map,i2,bl_len,Nat.zero_add,hgj];rfl)|rfl) ?_|refine st_reg rfl (by first|(simp only[go_sem,length_map,i2,bl_len,Nat.zero_add,hgj];rfl)|rfl) (by first|(simp only[go_sem,length_map,i2,bl_len,Nat.zero_add,hgj];rfl)|rfl) ?_|refine st_op ?_|refine st_det rfl (by simp (disch:=omega) only[go_sem,wr_i64,if_yes,if_no,↓reduceIte,reduceAdd,reduceMul,reduceEqDiff,Nat.reduceBEq,reduceLeDiff,length_map,i2,bl_len,Nat.zero_add,hgj];rfl) ?_|(refine st_pureE (by first|(simp (disch:=omega) only[go_sem,length_map,i2,bl_len,Nat.zero_add,hgj];rfl)|rfl) rfl (k84) (by first|(simp only[go_sem,length_map,i2,bl_len,Nat.zero_add,hgj];rfl)|rfl) (by intro n;first|(simp (disch:=omega) only[go_sem];rfl)|rfl) ?_;intro n hn)|refine st_gT rfl rfl rfl ?_|refine st_condF rfl ?_|(refine st_condS rfl ?_ ?_ <;> intro hg <;> (try simp only[decide_eq_true_eq,decide_eq_false_iff_not,Bool.not_eq_true',Bool.not_eq_false'] at hg))|refine st_nil ?_|refine st_tN ?_|refine st_seq ?_|refine st_block ?_|refine st_skip ?_|refine st_exit ?_|refine st_ret ?_|refine st_tE ?_|refine st_bN ?_|refine st_bH ?_)
      all_goals try (exfalso;omega)
      all_goals
        refine ⟨⟨k+1,cc,_⟩,(by refine ⟨by show k+1≤_;omega,by simp only[go_sem];rw [i2];exact congrArg (fun l=>some (⟨1,l⟩:Blk)) (bl_congr fun q hq=>(hsm q hq).symm),by simp only[go_sem];omega,fun b' hb'=>i4 b' hb',i5,by rw [i6];exact hcn.symm⟩),by show plN g - (k+1) < plN g - k;omega,(by (try (try simp only[add_s,go_sem]));repeat' (first|exact trivial|refine And.intro ?_ ?_|rfl|(simp (disch:=omega) only[go_sem,if_yes,if_no,↓reduceIte,reduceAdd,reduceMul,reduceEqDiff,Nat.reduceBEq,reduceLeDiff];rfl)|(simp (disch:=omega) only[go_sem,if_yes,if_no,↓reduceIte,reduceAdd,reduceMul,reduceEqDiff,Nat.reduceBEq,reduceLeDiff]))),(by (try (try simp only[add_s,go_sem]));repeat' (first|exact trivial|refine And.intro ?_ ?_|rfl|(simp (disch:=omega) only[go_sem,if_yes,if_no,↓reduceIte,reduceAdd,reduceMul,reduceEqDiff,Nat.reduceBEq,reduceLeDiff];rfl)|(simp (disch:=omega) only[go_sem,if_yes,if_no,↓reduceIte,reduceAdd,reduceMul,reduceEqDiff,Nat.reduceBEq,reduceLeDiff]))),rfl,HOld.refl _⟩
    | false =>
      rw [hB] at hgj
      have hset:(bl (t.rooms.length+1) (mayB t (elt s) g step k)).set j [.bool true]=bl (t.rooms.length+1) (mayB t (elt s) g step (k+1)):=by
        rw [bl_set hjR]
        exact bl_congr fun q hq=>(hnx q hq).symm
      have hcn:cntB (mayB t (elt s) g step (k+1)) (t.rooms.length+1)=cntB (mayB t (elt s) g step k) (t.rooms.length+1)+1:=by
        rw [cntB_congr hnx,cntB_set hB,if_pos hjR]
      repeat' (first|refine st_seq_reg rfl (by first|(simp only[go_sem,length_map,i2,bl_len,Nat.zero_add,hgj,hset];rfl)|rfl) (by first|(simp only[go_sem,length_map,i2,bl_len,Nat.zero_add,hgj,hset];rfl)|rfl) ?_|refine st_reg rfl (by first|(simp only[go_sem,length_map,i2,bl_len,Nat.zero_add,hgj,hset];rfl)|rfl) (by first|(simp only[go_sem,length_map,i2,bl_len,Nat.zero_add,hgj,hset];rfl)|rfl) ?_|refine st_op ?_|refine st_det rfl (by simp (disch:=omega) only[go_sem,wr_i64,if_yes,if_no,↓reduceIte,reduceAdd,reduceMul,reduceEqDiff,Nat.reduceBEq,reduceLeDiff,length_map,i2,bl_len,Nat.zero_add,hgj,hset];rfl) ?_|refine st_store (by simp (disch:=omega) only[go_sem,wr_i64,if_yes,if_no,↓reduceIte,reduceAdd,reduceMul,reduceEqDiff,Nat.reduceBEq,reduceLeDiff,length_map,i2,bl_len,Nat.zero_add,hgj,hset];rfl) ?_|(refine st_pureE (by first|(simp (disch:=omega) only[go_sem,length_map,i2,bl_len,Nat.zero_add,hgj,hset];rfl)|rfl) rfl (k84) (by first|(simp only[go_sem,length_map,i2,bl_len,Nat.zero_add,hgj,hset];rfl)|rfl) (by intro n;first|(simp (disch:=omega) only[go_sem];rfl)|rfl) ?_;intro n hn)|refine st_gT rfl rfl rfl ?_|refine st_condT rfl ?_|refine st_condF rfl ?_|(refine st_condS rfl ?_ ?_ <;> intro hg <;> (try simp only[decide_eq_true_eq,decide_eq_false_iff_not,Bool.not_eq_true',Bool.not_eq_false'] at hg))|refine st_nil ?_|refine st_tN ?_|refine st_seq ?_|refine st_block ?_|refine st_skip ?_|refine st_exit ?_|refine st_ret ?_|refine st_tE ?_|refine st_bN ?_|refine st_bH ?_)
      all_goals try (exfalso;omega)
      all_goals
        refine ⟨⟨k+1,cc+1,_⟩,(by refine ⟨by show k+1≤_;omega,by simp only[go_sem,↓reduceIte],by simp only[go_sem];omega,fun b' hb'=>by simp only[go_sem,if_neg (nbo b' hb')];exact i4 b' hb',i5,by rw [i6];exact hcn.symm⟩),by show plN g - (k+1) < plN g - k;omega,(by (try (try simp only[add_s,go_sem]));repeat' (first|exact trivial|refine And.intro ?_ ?_|rfl|(simp (disch:=omega) only[go_sem,if_yes,if_no,↓reduceIte,reduceAdd,reduceMul,reduceEqDiff,Nat.reduceBEq,reduceLeDiff];rfl)|(simp (disch:=omega) only[go_sem,if_yes,if_no,↓reduceIte,reduceAdd,reduceMul,reduceEqDiff,Nat.reduceBEq,reduceLeDiff]))),(by (try (try simp only[add_s,go_sem]));repeat' (first|exact trivial|refine And.intro ?_ ?_|rfl|(simp (disch:=omega) only[go_sem,if_yes,if_no,↓reduceIte,reduceAdd,reduceMul,reduceEqDiff,Nat.reduceBEq,reduceLeDiff];rfl)|(simp (disch:=omega) only[go_sem,if_yes,if_no,↓reduceIte,reduceAdd,reduceMul,reduceEqDiff,Nat.reduceBEq,reduceLeDiff]))),rfl,HOld.refl _⟩
end Go.Proofs.Ythjbfdfhblloiaa

namespace Go.Proofs.Ythjbfdfhblloiaa
open Go.Av
set_option maxRecDepth 20000
def rloF (t:Tw) (f:Nat→Int) (q st:Int) (i:Nat):Int:=if someB t f (gp t.gs i) q st=true∧oneB t f (gp t.gs i) st=true then (gp t.gs i).lo else 0
theorem rloF_bd {t:Tw} (hT:TwOk t) (f:Nat→Int) (q st:Int):∀ i,i < t.gs.length→0≤rloF t f q st i∧rloF t f q st i≤1000000:=fun i hi=>by
  have a:=(hT.g i hi).size
  unfold rloF;split <;> omega
def sl (R:Nat) (F G:Nat→Int):List (List AV):=(List.range R).map fun q=>[.int .i64 (F q),.int .i64 (G q)]
@[go_sem] theorem sl_len (R:Nat) (F G:Nat→Int):(sl R F G).length=R:=by simp [sl]
theorem sl_get {R:Nat} {F G:Nat→Int} {q:Nat} (h:q < R):(sl R F G).getD q []=[.int .i64 (F q),.int .i64 (G q)]:=by
  unfold sl;rw [List.getD_eq_getElem?_getD,List.getElem?_map,List.getElem?_range h];rfl
theorem sl_congr {R:Nat} {F G F' G':Nat→Int} (h:∀ q,q < R→F q=F' q∧G q=G' q):sl R F G=sl R F' G':=by
  unfold sl;exact List.map_congr_left fun q hq=>by rw [(h q (List.mem_range.1 hq)).1,(h q (List.mem_range.1 hq)).2]
theorem sl_set {R:Nat} {F G:Nat→Int} {q:Nat} {a b:Int} (_h:q < R):(sl R F G).set q [.int .i64 a,.int .i64 b]=sl R (fun j=>if j=q then a else F j) (fun j=>if j=q then b else G j):=by
  apply List.ext_getElem?
  intro j
  rw [List.getElem?_set]
  by_cases hj:j < R
  · have e:∀ F G:Nat→Int,(sl R F G)[j]?=some [.int .i64 (F j),.int .i64 (G j)]:=fun F G=>by unfold sl;rw [List.getElem?_map,List.getElem?_range hj];rfl
    rw [e,e]
    by_cases q1:q=j
    · subst q1;rw [if_pos rfl,if_pos (by rw [sl_len];exact hj),if_pos rfl,if_pos rfl]
    · rw [if_neg q1,if_neg (fun h=>q1 h.symm),if_neg (fun h=>q1 h.symm)]
  · have e:∀ F G:Nat→Int,(sl R F G)[j]?=none:=fun F G=>List.getElem?_eq_none (by rw [sl_len];omega)
    rw [e,e]
    split
    · rw [if_neg (by rw [sl_len];omega)]
    · rfl
theorem sl_rep (R:Nat):List.replicate R [AV.int .i64 0,AV.int .i64 0]=sl R (fun _=>0) (fun _=>0):=by
  apply List.ext_getElem?
  intro j
  unfold sl
  rw [List.getElem?_replicate,List.getElem?_map]
  by_cases hj:j < R
  · rw [if_pos hj,List.getElem?_range hj];rfl
  · rw [if_neg hj,List.getElem?_eq_none (by simp;omega)];rfl
def pS (F:Nat→Nat→Int) (i s q:Nat):Int:=if q < s then sumF (F q) (i+1) else sumF (F q) i
theorem pS_zero (F:Nat→Nat→Int) (i q:Nat):pS F i 0 q=sumF (F q) i:=if_neg (Nat.not_lt_zero _)
theorem pS_end (F:Nat→Nat→Int) {i R q:Nat} (h:q < R):pS F i R q=sumF (F q) (i+1):=if_pos h
theorem pS_next (F:Nat→Nat→Int) (i s q:Nat):pS F i (s+1) q=if q=s then pS F i s s+F s i else pS F i s q:=by
  unfold pS
  by_cases e:q=s
  · subst e;rw [if_pos (Nat.lt_succ_self _),if_pos rfl,if_neg (Nat.lt_irrefl _)];rfl
  · rw [if_neg e]
    by_cases e2:q < s
    · rw [if_pos e2,if_pos (by omega)]
    · rw [if_neg e2,if_neg (by omega)]
def rlds (t:Tw) (f:Nat→Int) (st:Int):List (List AV):=sl t.rooms.length (fun q=>sumF (rloF t f (q:Nat) st) t.gs.length) (fun q=>ldHi t f (q:Nat) st)
end Go.Proofs.Ythjbfdfhblloiaa
