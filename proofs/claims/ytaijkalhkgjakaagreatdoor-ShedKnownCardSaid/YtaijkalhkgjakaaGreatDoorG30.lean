/- Contracts of functions that the claim reaches: what each call gives, told in our own logic. Conditions: those of each theorem. -/
import Derived.Test.YtaijkalhkgjakaaGreatDoorP14
open List (length_map)
set_option linter.all false
set_option linter.unusedSimpArgs false
set_option linter.unusedVariables false
namespace Go.Proofs.YtaijkalhkgjakaaGreatDoor
open Go.Av
attribute [local irreducible] thenA blockA awp awpOps awpD awp1
attribute [local go_sem_proc] Nat.reduceAdd Nat.reduceMul Nat.reduceEqDiff Nat.reduceBEq Nat.reduceLeDiff
attribute [local go_sem_proc ↓] reduceIte
attribute [local go_sem] if_yes if_no
set_option maxHeartbeats 8000000
set_option maxRecDepth 20000
theorem chkJ_d {S:Sp} {p:List Sf} {i:Nat} (h:chkJ S p i=0):0≤(pAt p i).d∧(pAt p i).d≤400:=by
 unfold chkJ at h
 split at h
 ·exact absurd h (by decide)
 ·split at h
  ·exact absurd h (by decide)
  ·split at h
   ·exact absurd h (by decide)
   ·rename_i q;exact Decidable.of_not_not q
theorem find_hit {F:Nat→Bool} {n i:Nat} (hi:i < n) (h:∀ k,k < i→F k=false) (ha:F i=true):(List.range n).find? F=some i:=by
 rw [List.find?_eq_some_iff_append]
 refine ⟨ha,List.range i,(List.range (n - i - 1)).map (i+1+·),?_,fun k hk=>by rw [h k (List.mem_range.1 hk)];rfl⟩
 have e:n=i+(n - i - 1+1):=by omega
 conv=>lhs;rw [e,List.range_add,List.range_succ_eq_map]
 simp [List.map_map,Function.comp_def,Nat.add_assoc,Nat.add_comm 1]
theorem chkP_hit {S:Sp} {p:List Sf} {i:Nat} {e:Int} (hl:p.length=S.js.length) (hi:i < p.length) (h:∀ k,k < i→chkJ S p k=0) (he:chkJ S p i=e) (h0:e ≠ 0):chkP S p=e:=by
 unfold chkP
 rw [if_neg (fun q=>q hl),find_hit hi (fun k hk=>by simp [h k hk]) (by simp [he,h0])]
 exact he
theorem chkP_find {S:Sp} {p:List Sf} (h:∀ k,k < p.length→chkJ S p k=0):(List.range p.length).find? (fun i=>decide (chkJ S p i ≠ 0))=none:=by
 rw [List.find?_eq_none]
 intro k hk
 have:=h k (List.mem_range.1 hk)
 simp [this]
theorem chkP_clash {S:Sp} {p:List Sf} {i k:Nat} (hl:p.length=S.js.length) (h:∀ k,k < p.length→chkJ S p k=0) (hi:i < p.length) (hk:k < i) (hc:clP S p i k=true):chkP S p=10:=by
 unfold chkP
 rw [if_neg (fun q=>q hl),chkP_find h]
 dsimp only
 rw [if_pos]
 rw [List.any_eq_true]
 refine ⟨i,List.mem_range.2 hi,?_⟩
 rw [List.any_eq_true]
 exact ⟨k,List.mem_range.2 hk,hc⟩
theorem chkP_none {S:Sp} {p:List Sf} (hl:p.length=S.js.length) (h:∀ k,k < p.length→chkJ S p k=0) (hc:∀ a,a < p.length→∀ b,b < a→clP S p a b=false):chkP S p=0:=by
 unfold chkP
 rw [if_neg (fun q=>q hl),chkP_find h]
 dsimp only
 rw [if_neg]
 rw [List.any_eq_true]
 rintro ⟨i,hi,hh⟩
 rw [List.any_eq_true] at hh
 obtain ⟨k,hk,hh⟩:=hh
 rw [hc i (List.mem_range.1 hi) k (List.mem_range.1 hk)] at hh
 cases hh
theorem c69 (S:Sp) (hS:S.Ok) (p:List Sf) (hp:(p.length:Int) < 1000000):PureG gB Tryz.prog 69 [S.av,.lst 2 (p.map Sf.row)] (fun v=>v=.int .i64 (chkP S p)):=by
 intro h hgl
 have h7:=hS.n7
 have h4:=hS.m4
 refine ACalls.forget (ACalls.of tab mixed Tryz.call69 Tryz.func69 rfl (fi:=⟨113,[6,9,11],[2,32,54],none,[(8,[0,1,0,4,15,31,63,0,128,0,896,1920,4095,8191,16383,32767],[(0,false),(1,true),(2,false),(3,true),(4,false),(5,true),(7,false),(8,true),(9,false),(10,false),(11,true),(6,false),(12,false),(13,false),(14,false),(15,false)]),(13,[0,1,3,7,15,7,7,7,231,511,1023],[(0,false),(1,false),(2,false),(3,false),(4,true),(5,true),(6,false),(7,false),(8,false),(9,false),(10,false)]),(22,[0,1,0,4,15,31,63,127,63,63,63,1855,4095,8191,16383,32767,65535,32767,32767,32767,950271,2097151,4194303],[(0,false),(1,true),(2,false),(3,true),(4,false),(5,false),(6,false),(7,true),(8,true),(9,false),(10,false),(11,false),(12,false),(13,false),(14,false),(15,false),(16,true),(17,true),(18,false),(19,false),(20,false),(21,false),(22,false)])]⟩) rfl rfl (Nat.le_of_ble_eq_true rfl) (by decide) ?_)
 unfold startA
 try simp only[go_sem]
 by_cases hl:p.length=S.js.length
 case neg =>
  repeat' (first|refine st_seq_reg rfl (by first|(simp only[go_sem,Lm];rfl)|rfl) (by first|(simp only[go_sem,Lm];rfl)|rfl) ?_|refine st_op ?_|refine st_det rfl (by simp (disch:=omega) only[go_sem,wr_i64,Lm];rfl) ?_|(refine st_condS rfl ?_ ?_ <;> intro hg <;> (try simp only[dcT,dcF,bnT,bnF] at hg))|refine st_nil ?_|refine st_tN ?_|refine st_seq ?_|refine st_block ?_|refine st_skip ?_|refine st_ret ?_|refine st_tR ?_)
  all_goals try (exfalso;omega)
  simp (disch:=omega) only[AEnd,Tryz.results69,aresK,fin,go_sem,implies_true,true_and,and_true,List.reverse_cons,List.reverse_nil]
  unfold chkP;rw [if_pos hl]
 repeat' (first|refine st_seq_reg rfl (by first|(simp only[go_sem,Lm];rfl)|rfl) (by first|(simp only[go_sem,Lm];rfl)|rfl) ?_|refine st_op ?_|refine st_det rfl (by simp (disch:=omega) only[go_sem,wr_i64,Lm];rfl) ?_|(refine st_condS rfl ?_ ?_ <;> intro hg <;> (try simp only[dcT,dcF,bnT,bnF] at hg))|refine st_nil ?_|refine st_tN ?_|refine st_seq ?_|refine st_block ?_|refine st_skip ?_|refine st_ret ?_|refine st_tR ?_)
 all_goals try (exfalso;omega)
 refine st_loopC (α:=Nat) tab mixed [] [] (by repeat (first|exact trivial|refine ⟨rfl,?_⟩)) [] [] (by repeat (first|exact trivial|refine ⟨rfl,?_⟩)) (fun i=>[(20,.int .i64 (i:Nat))]) [(1,_),(2,_),(4,_),(18,_),(19,_)] (fun _=>[]) [] (fun i=>i≤p.length∧∀ k,k < i→chkJ S p k=0) (fun i=>p.length - i) (by decide) 0 ⟨Nat.zero_le _,fun k hk=>absurd hk (Nat.not_lt_zero k)⟩ (by (try simp only[go_sem]);repeat' (first|exact trivial|refine And.intro ?_ ?_|rfl|(simp (disch:=omega) only[go_sem,if_yes,if_no,if_no];rfl)|(simp (disch:=omega) only[go_sem,if_yes,if_no,if_no]))) (by (try simp only[go_sem]);repeat' (first|exact trivial|refine And.intro ?_ ?_|rfl|(simp (disch:=omega) only[go_sem,if_yes,if_no,if_no];rfl)|(simp (disch:=omega) only[go_sem,if_yes,if_no,if_no]))) (by first|(simp only[go_sem];rfl)|rfl) (by intro n;simp only[go_sem];rfl) ?_
 rintro i c ⟨hi,hall⟩ hc
 simp only[go_sem]
 by_cases hil:i < p.length
 ·have hji:=hS.j (show i < S.js.length by omega)
  unfold Jb.Ok at hji
  have hb:=befJ_cases S.js (jOf S.js i).f i
  have hbn:0≤befJ S.js (jOf S.js i).f i→befJ S.js (jOf S.js i).f i=((befJ S.js (jOf S.js i).f i).toNat:Int):=fun h=>by omega
  have hbl:0≤befJ S.js (jOf S.js i).f i→(befJ S.js (jOf S.js i).f i).toNat < i:=fun h=>by rcases hb with ⟨e,_⟩|⟨k,e,hk,_⟩ <;> omega
  by_cases hw:0≤(pAt p i).w∧(pAt p i).w < S.ws.length
  case neg =>
   have e:=chkP_hit hl hil hall (e:=7) (by unfold chkJ;rw [if_pos hw]) (by decide)
   repeat' (first|refine st_seq_reg rfl (by first|(simp only[go_sem,Lm];rfl)|rfl) (by first|(simp only[go_sem,Lm];rfl)|rfl) ?_|refine st_seq_draw rfl (by first|(simp only[go_sem,Lm];rfl)|rfl) (by first|(simp only[go_sem,Lm];rfl)|rfl) ?_|refine st_op ?_|refine st_det rfl (by simp (disch:=omega) only[go_sem,wr_i64,Lm];rfl) ?_|refine st_dop rfl ?_|refine st_loc rfl (by simp (disch:=omega) only[go_sem,wr_i64,Lm];rfl) ?_|refine st_store (by simp (disch:=omega) only[go_sem,wr_i64,Lm];rfl) ?_|(refine st_pureE (by first|(simp (disch:=omega) only[go_sem,Lm];rfl)|rfl) rfl (c66a _ _ _) (by first|(simp only[go_sem,Lm];rfl)|rfl) (by intro n;first|(simp (disch:=omega) only[go_sem];rfl)|rfl) ?_;intro n hn)|(refine st_condS rfl ?_ ?_ <;> intro hg <;> (try simp only[dcT,dcF,bnT,bnF] at hg))|refine st_nil ?_|refine st_tN ?_|refine st_seq ?_|refine st_block ?_|refine st_skip ?_|refine st_exit ?_|refine st_ret ?_|refine st_tE ?_|refine st_tR ?_|refine st_bR ?_|refine st_bH ?_)
   all_goals try (exfalso;omega)
   all_goals
    simp (disch:=omega) only[AEnd,Tryz.results69,aresK,fin,go_sem,implies_true,true_and,and_true,List.reverse_cons,List.reverse_nil]
    try rw [e]
  obtain ⟨w,hwe⟩:∃ w:Nat,(pAt p i).w=w:=⟨(pAt p i).w.toNat,by omega⟩
  have hwl:w < S.ws.length:=by omega
  have hwk:S.wk (pAt p i).w.toNat=S.wk w:=by rw [hwe];rfl
  have hwk2:wOf S.ws w=S.wk w:=rfl
  cases hcan:(S.wk w).can (S.j i).s with
  | false =>
   have e:=chkP_hit hl hil hall (e:=3) (by unfold chkJ;rw [if_neg (fun q=>q hw),hwk,if_pos hcan]) (by decide)
   have hz:=(canI (w:=S.wk w) (s:=(S.j i).s) ⟨hji.2.2.1,hji.2.2.2.1⟩).2 hcan
   have hz':bitop .and .i64 (wOf S.ws w).sk (ndI (jOf S.js i).s)=0:=hz
   repeat' (first|refine st_seq_reg rfl (by first|(simp only[go_sem,Lm,hwe];rfl)|rfl) (by first|(simp only[go_sem,Lm,hwe];rfl)|rfl) ?_|refine st_seq_draw rfl (by first|(simp only[go_sem,Lm,hwe];rfl)|rfl) (by first|(simp only[go_sem,Lm,hwe];rfl)|rfl) ?_|refine st_op ?_|refine st_det rfl (by simp (disch:=omega) only[go_sem,wr_i64,Lm,hwe];rfl) ?_|refine st_dop rfl ?_|refine st_loc rfl (by simp (disch:=omega) only[go_sem,wr_i64,Lm,hwe];rfl) ?_|refine st_store (by simp (disch:=omega) only[go_sem,wr_i64,Lm,hwe];rfl) ?_|(refine st_pureE (by first|(simp (disch:=omega) only[go_sem,Lm,hwe];rfl)|rfl) rfl (c66a _ _ _) (by first|(simp only[go_sem,Lm,hwe];rfl)|rfl) (by intro n;first|(simp (disch:=omega) only[go_sem];rfl)|rfl) ?_;intro n hn)|(refine st_pureE (by first|(simp (disch:=omega) only[go_sem,Lm,hwe];rfl)|rfl) rfl (c74 _) (by first|(simp only[go_sem,Lm,hwe];rfl)|rfl) (by intro n;first|(simp (disch:=omega) only[go_sem];rfl)|rfl) ?_;intro n hn)|(refine st_pureGE (by first|(simp (disch:=omega) only[go_sem,Lm,hwe];rfl)|rfl) rfl (c73 (jOf S.js i) ⟨hji.2.2.1,hji.2.2.2.1⟩) (by exact hgl) (by first|(simp only[go_sem,Lm,hwe];rfl)|rfl) (by intro n;first|(simp (disch:=omega) only[go_sem];rfl)|rfl) ?_;intro n hn)|(refine st_condS rfl ?_ ?_ <;> intro hg <;> (try simp only[dcT,dcF,bnT,bnF] at hg))|refine st_nil ?_|refine st_dnil ?_|refine st_tN ?_|refine st_seq ?_|refine st_block ?_|refine st_skip ?_|refine st_exit ?_|refine st_ret ?_|refine st_tE ?_|refine st_tR ?_|refine st_bN ?_|refine st_bR ?_|refine st_bH ?_)
   all_goals try (exfalso;omega)
   simp (disch:=omega) only[AEnd,Tryz.results69,aresK,fin,go_sem,implies_true,true_and,and_true,List.reverse_cons,List.reverse_nil]
   rw [e]
  | true =>
   have hz':¬ bitop .and .i64 (wOf S.ws w).sk (ndI (jOf S.js i).s)=0:=fun q=>by
    have:=(canI (w:=S.wk w) (s:=(S.j i).s) ⟨hji.2.2.1,hji.2.2.2.1⟩).1 q
    rw [hcan] at this;cases this
   by_cases hd:0≤(pAt p i).d∧(pAt p i).d≤400
   case neg =>
    have e:=chkP_hit hl hil hall (e:=2) (by unfold chkJ;rw [if_neg (fun q=>q hw),hwk,hcan,if_neg (by decide),if_pos hd]) (by decide)
    repeat' (first|refine st_seq_reg rfl (by first|(simp only[go_sem,Lm,hwe];rfl)|rfl) (by first|(simp only[go_sem,Lm,hwe];rfl)|rfl) ?_|refine st_seq_draw rfl (by first|(simp only[go_sem,Lm,hwe];rfl)|rfl) (by first|(simp only[go_sem,Lm,hwe];rfl)|rfl) ?_|refine st_op ?_|refine st_det rfl (by simp (disch:=omega) only[go_sem,wr_i64,Lm,hwe];rfl) ?_|refine st_dop rfl ?_|refine st_loc rfl (by simp (disch:=omega) only[go_sem,wr_i64,Lm,hwe];rfl) ?_|refine st_store (by simp (disch:=omega) only[go_sem,wr_i64,Lm,hwe];rfl) ?_|(refine st_pureE (by first|(simp (disch:=omega) only[go_sem,Lm,hwe];rfl)|rfl) rfl (c66a _ _ _) (by first|(simp only[go_sem,Lm,hwe];rfl)|rfl) (by intro n;first|(simp (disch:=omega) only[go_sem];rfl)|rfl) ?_;intro n hn)|(refine st_pureE (by first|(simp (disch:=omega) only[go_sem,Lm,hwe];rfl)|rfl) rfl (c74 _) (by first|(simp only[go_sem,Lm,hwe];rfl)|rfl) (by intro n;first|(simp (disch:=omega) only[go_sem];rfl)|rfl) ?_;intro n hn)|(refine st_pureGE (by first|(simp (disch:=omega) only[go_sem,Lm,hwe];rfl)|rfl) rfl (c73 (jOf S.js i) ⟨hji.2.2.1,hji.2.2.2.1⟩) (by exact hgl) (by first|(simp only[go_sem,Lm,hwe];rfl)|rfl) (by intro n;first|(simp (disch:=omega) only[go_sem];rfl)|rfl) ?_;intro n hn)|(refine st_condS rfl ?_ ?_ <;> intro hg <;> (try simp only[dcT,dcF,bnT,bnF] at hg))|refine st_nil ?_|refine st_dnil ?_|refine st_tN ?_|refine st_seq ?_|refine st_block ?_|refine st_skip ?_|refine st_exit ?_|refine st_ret ?_|refine st_tE ?_|refine st_tR ?_|refine st_bN ?_|refine st_bR ?_|refine st_bH ?_)
    all_goals try (exfalso;omega)
    all_goals
     simp (disch:=omega) only[AEnd,Tryz.results69,aresK,fin,go_sem,implies_true,true_and,and_true,List.reverse_cons,List.reverse_nil]
     try rw [e]
   have hjw:1≤(jOf S.js i).s∧(jOf S.js i).s≤3:=⟨hji.2.2.1,hji.2.2.2.1⟩
   rcases hb with ⟨e1,_⟩|⟨k,e1,hk,_⟩
   ·have hz0:chkJ S p i=0:=chkJ_zero.2 ⟨hw,by rw [hwk];exact hcan,hd,fun q=>by have:=q.1;rw [show (S.j i).f=(jOf S.js i).f from rfl,e1] at this;omega⟩
    repeat' (first|refine st_seq_reg rfl (by first|(simp only[go_sem,Lm,hwe,e1];rfl)|rfl) (by first|(simp only[go_sem,Lm,hwe,e1];rfl)|rfl) ?_|refine st_reg rfl (by first|(simp only[go_sem,Lm,hwe,e1];rfl)|rfl) (by first|(simp only[go_sem,Lm,hwe,e1];rfl)|rfl) ?_|refine st_seq_draw rfl (by first|(simp only[go_sem,Lm,hwe,e1];rfl)|rfl) (by first|(simp only[go_sem,Lm,hwe,e1];rfl)|rfl) ?_|refine st_op ?_|refine st_det rfl (by simp (disch:=omega) only[go_sem,wr_i64,Lm,hwe,e1];rfl) ?_|refine st_dop rfl ?_|refine st_loc rfl (by simp (disch:=omega) only[go_sem,wr_i64,Lm,hwe,e1];rfl) ?_|refine st_store (by simp (disch:=omega) only[go_sem,wr_i64,Lm,hwe,e1];rfl) ?_|(refine st_pureE (by first|(simp (disch:=omega) only[go_sem,Lm,hwe,e1];rfl)|rfl) rfl (c66a _ _ _) (by first|(simp only[go_sem,Lm,hwe,e1];rfl)|rfl) (by intro n;first|(simp (disch:=omega) only[go_sem];rfl)|rfl) ?_;intro n hn)|(refine st_pureE (by first|(simp (disch:=omega) only[go_sem,Lm,hwe,e1];rfl)|rfl) rfl (c74 _) (by first|(simp only[go_sem,Lm,hwe,e1];rfl)|rfl) (by intro n;first|(simp (disch:=omega) only[go_sem];rfl)|rfl) ?_;intro n hn)|(refine st_pureGE (by first|(simp (disch:=omega) only[go_sem,Lm,hwe,e1];rfl)|rfl) rfl (c73 (jOf S.js i) hjw) (by exact hgl) (by first|(simp only[go_sem,Lm,hwe,e1];rfl)|rfl) (by intro n;first|(simp (disch:=omega) only[go_sem];rfl)|rfl) ?_;intro n hn)|(refine st_pureE (by first|(simp (disch:=omega) only[go_sem,Lm,hwe,e1];rfl)|rfl) rfl (c100 S i (by omega) h7) (by first|(simp only[go_sem,Lm,hwe,e1];rfl)|rfl) (by intro n;first|(simp (disch:=omega) only[go_sem];rfl)|rfl) ?_;intro n hn)|refine st_dgF rfl rfl rfl ?_|refine st_condF rfl ?_|(refine st_condS rfl ?_ ?_ <;> intro hg <;> (try simp only[dcT,dcF,bnT,bnF] at hg))|refine st_nil ?_|refine st_dnil ?_|refine st_tN ?_|refine st_seq ?_|refine st_block ?_|refine st_skip ?_|refine st_exit ?_|refine st_ret ?_|refine st_tE ?_|refine st_tR ?_|refine st_bN ?_|refine st_bR ?_|refine st_bH ?_)
    all_goals try (exfalso;omega)
    refine ⟨i+1,⟨by omega,stepP hall hz0⟩,by omega,(by repeat' (first|exact trivial|refine And.intro ?_ ?_|rfl|(simp (disch:=omega) only[go_sem,if_yes,if_no,if_no];rfl)|(simp (disch:=omega) only[go_sem,if_yes,if_no,if_no]))),(by repeat' (first|exact trivial|refine And.intro ?_ ?_|rfl|(simp (disch:=omega) only[go_sem,if_yes,if_no,if_no];rfl)|(simp (disch:=omega) only[go_sem,if_yes,if_no,if_no]))),rfl,(by first|exact HOld.of _ (by omega)|exact HOld.put _ _ _ (by omega))⟩
   ·have hkd:=chkJ_d (hall k (by omega))
    have hjk:=hS.j (show k < S.js.length by omega)
    unfold Jb.Ok at hjk
    have ejk:S.j k=jOf S.js k:=rfl
    rw [ejk] at hjk
    by_cases hlt:(pAt p i).d < (pAt p k).d+(jOf S.js k).d
    ·have e:chkP S p=9:=chkP_hit hl hil hall (e:=9) (by
      unfold chkJ
      rw [if_neg (fun q=>q hw),hwk,if_neg (by rw [hcan];decide),if_neg (fun q=>q hd),show (S.j i).f=(jOf S.js i).f from rfl,e1,Int.toNat_natCast,if_pos ⟨by omega,hlt⟩]) (by decide)
     repeat' (first|refine st_seq_reg rfl (by first|(simp only[go_sem,Lm,hwe,e1];rfl)|rfl) (by first|(simp only[go_sem,Lm,hwe,e1];rfl)|rfl) ?_|refine st_reg rfl (by first|(simp only[go_sem,Lm,hwe,e1];rfl)|rfl) (by first|(simp only[go_sem,Lm,hwe,e1];rfl)|rfl) ?_|refine st_seq_draw rfl (by first|(simp only[go_sem,Lm,hwe,e1];rfl)|rfl) (by first|(simp only[go_sem,Lm,hwe,e1];rfl)|rfl) ?_|refine st_op ?_|refine st_det rfl (by simp (disch:=omega) only[go_sem,wr_i64,Lm,hwe,e1];rfl) ?_|refine st_dop rfl ?_|refine st_loc rfl (by simp (disch:=omega) only[go_sem,wr_i64,Lm,hwe,e1];rfl) ?_|refine st_store (by simp (disch:=omega) only[go_sem,wr_i64,Lm,hwe,e1];rfl) ?_|(refine st_pureE (by first|(simp (disch:=omega) only[go_sem,Lm,hwe,e1];rfl)|rfl) rfl (c66a _ _ _) (by first|(simp only[go_sem,Lm,hwe,e1];rfl)|rfl) (by intro n;first|(simp (disch:=omega) only[go_sem];rfl)|rfl) ?_;intro n hn)|(refine st_pureE (by first|(simp (disch:=omega) only[go_sem,Lm,hwe,e1];rfl)|rfl) rfl (c74 _) (by first|(simp only[go_sem,Lm,hwe,e1];rfl)|rfl) (by intro n;first|(simp (disch:=omega) only[go_sem];rfl)|rfl) ?_;intro n hn)|(refine st_pureGE (by first|(simp (disch:=omega) only[go_sem,Lm,hwe,e1];rfl)|rfl) rfl (c73 (jOf S.js i) hjw) (by exact hgl) (by first|(simp only[go_sem,Lm,hwe,e1];rfl)|rfl) (by intro n;first|(simp (disch:=omega) only[go_sem];rfl)|rfl) ?_;intro n hn)|(refine st_pureE (by first|(simp (disch:=omega) only[go_sem,Lm,hwe,e1];rfl)|rfl) rfl (c100 S i (by omega) h7) (by first|(simp only[go_sem,Lm,hwe,e1];rfl)|rfl) (by intro n;first|(simp (disch:=omega) only[go_sem];rfl)|rfl) ?_;intro n hn)|(refine st_pureE (by first|(simp (disch:=omega) only[go_sem,Lm,hwe,e1];rfl)|rfl) rfl (c70 S p k (by omega) (by omega) h7 (by omega) (by omega)) (by first|(simp only[go_sem,Lm,hwe,e1];rfl)|rfl) (by intro n;first|(simp (disch:=omega) only[go_sem];rfl)|rfl) ?_;intro n hn)|refine st_dgT rfl rfl rfl rfl ?_|(refine st_condS rfl ?_ ?_ <;> intro hg <;> (try simp only[dcT,dcF,bnT,bnF] at hg))|refine st_nil ?_|refine st_dnil ?_|refine st_tN ?_|refine st_seq ?_|refine st_block ?_|refine st_skip ?_|refine st_exit ?_|refine st_ret ?_|refine st_tE ?_|refine st_tR ?_|refine st_bN ?_|refine st_bR ?_|refine st_bH ?_)
     all_goals try (exfalso;omega)
     simp (disch:=omega) only[AEnd,Tryz.results69,aresK,fin,go_sem,implies_true,true_and,and_true,List.reverse_cons,List.reverse_nil]
     rw [e]
    ·have hz0:chkJ S p i=0:=chkJ_zero.2 ⟨hw,by rw [hwk];exact hcan,hd,fun q=>by have:=q.2;rw [show (S.j i).f=(jOf S.js i).f from rfl,e1,Int.toNat_natCast] at this;exact hlt this⟩
     repeat' (first|refine st_seq_reg rfl (by first|(simp only[go_sem,Lm,hwe,e1];rfl)|rfl) (by first|(simp only[go_sem,Lm,hwe,e1];rfl)|rfl) ?_|refine st_reg rfl (by first|(simp only[go_sem,Lm,hwe,e1];rfl)|rfl) (by first|(simp only[go_sem,Lm,hwe,e1];rfl)|rfl) ?_|refine st_seq_draw rfl (by first|(simp only[go_sem,Lm,hwe,e1];rfl)|rfl) (by first|(simp only[go_sem,Lm,hwe,e1];rfl)|rfl) ?_|refine st_op ?_|refine st_det rfl (by simp (disch:=omega) only[go_sem,wr_i64,Lm,hwe,e1];rfl) ?_|refine st_dop rfl ?_|refine st_loc rfl (by simp (disch:=omega) only[go_sem,wr_i64,Lm,hwe,e1];rfl) ?_|refine st_store (by simp (disch:=omega) only[go_sem,wr_i64,Lm,hwe,e1];rfl) ?_|(refine st_pureE (by first|(simp (disch:=omega) only[go_sem,Lm,hwe,e1];rfl)|rfl) rfl (c66a _ _ _) (by first|(simp only[go_sem,Lm,hwe,e1];rfl)|rfl) (by intro n;first|(simp (disch:=omega) only[go_sem];rfl)|rfl) ?_;intro n hn)|(refine st_pureE (by first|(simp (disch:=omega) only[go_sem,Lm,hwe,e1];rfl)|rfl) rfl (c74 _) (by first|(simp only[go_sem,Lm,hwe,e1];rfl)|rfl) (by intro n;first|(simp (disch:=omega) only[go_sem];rfl)|rfl) ?_;intro n hn)|(refine st_pureGE (by first|(simp (disch:=omega) only[go_sem,Lm,hwe,e1];rfl)|rfl) rfl (c73 (jOf S.js i) hjw) (by exact hgl) (by first|(simp only[go_sem,Lm,hwe,e1];rfl)|rfl) (by intro n;first|(simp (disch:=omega) only[go_sem];rfl)|rfl) ?_;intro n hn)|(refine st_pureE (by first|(simp (disch:=omega) only[go_sem,Lm,hwe,e1];rfl)|rfl) rfl (c100 S i (by omega) h7) (by first|(simp only[go_sem,Lm,hwe,e1];rfl)|rfl) (by intro n;first|(simp (disch:=omega) only[go_sem];rfl)|rfl) ?_;intro n hn)|(refine st_pureE (by first|(simp (disch:=omega) only[go_sem,Lm,hwe,e1];rfl)|rfl) rfl (c70 S p k (by omega) (by omega) h7 (by omega) (by omega)) (by first|(simp only[go_sem,Lm,hwe,e1];rfl)|rfl) (by intro n;first|(simp (disch:=omega) only[go_sem];rfl)|rfl) ?_;intro n hn)|refine st_dgT rfl rfl rfl rfl ?_|(refine st_condS rfl ?_ ?_ <;> intro hg <;> (try simp only[dcT,dcF,bnT,bnF] at hg))|refine st_nil ?_|refine st_dnil ?_|refine st_tN ?_|refine st_seq ?_|refine st_block ?_|refine st_skip ?_|refine st_exit ?_|refine st_ret ?_|refine st_tE ?_|refine st_tR ?_|refine st_bN ?_|refine st_bR ?_|refine st_bH ?_)
     all_goals try (exfalso;omega)
     refine ⟨i+1,⟨by omega,stepP hall hz0⟩,by omega,(by repeat' (first|exact trivial|refine And.intro ?_ ?_|rfl|(simp (disch:=omega) only[go_sem,if_yes,if_no,if_no];rfl)|(simp (disch:=omega) only[go_sem,if_yes,if_no,if_no]))),(by repeat' (first|exact trivial|refine And.intro ?_ ?_|rfl|(simp (disch:=omega) only[go_sem,if_yes,if_no,if_no];rfl)|(simp (disch:=omega) only[go_sem,if_yes,if_no,if_no]))),rfl,(by first|exact HOld.of _ (by omega)|exact HOld.put _ _ _ (by omega))⟩
 ·have ei:i=p.length:=by omega
  subst ei
  repeat' (first|refine st_seq_reg rfl (by first|(simp only[go_sem,Lm];rfl)|rfl) (by first|(simp only[go_sem,Lm];rfl)|rfl) ?_|refine st_op ?_|refine st_det rfl (by simp (disch:=omega) only[go_sem,wr_i64,Lm];rfl) ?_|refine st_loc rfl (by simp (disch:=omega) only[go_sem,wr_i64,Lm];rfl) ?_|refine st_store (by simp (disch:=omega) only[go_sem,wr_i64,Lm];rfl) ?_|(refine st_condS rfl ?_ ?_ <;> intro hg <;> (try simp only[dcT,dcF,bnT,bnF] at hg))|refine st_nil ?_|refine st_tN ?_|refine st_seq ?_|refine st_block ?_|refine st_skip ?_|refine st_exit ?_|refine st_tE ?_|refine st_bH ?_)
  all_goals try (exfalso;omega)
  refine st_loopC (α:=Nat) tab mixed [] [] (by repeat (first|exact trivial|refine ⟨rfl,?_⟩)) [] [] (by repeat (first|exact trivial|refine ⟨rfl,?_⟩)) (fun i=>[(74,.int .i64 (i:Nat))]) [(1,_),(2,_),(4,_),(72,_),(73,_)] (fun _=>[]) [] (fun i=>i≤p.length∧∀ a,a < i→∀ b,b < a→clP S p a b=false) (fun i=>p.length - i) (by decide) 0 ⟨Nat.zero_le _,fun k hk=>absurd hk (Nat.not_lt_zero k)⟩ (by (try simp only[go_sem]);repeat' (first|exact trivial|refine And.intro ?_ ?_|rfl|(simp (disch:=omega) only[go_sem,if_yes,if_no,if_no];rfl)|(simp (disch:=omega) only[go_sem,if_yes,if_no,if_no]))) (by (try simp only[go_sem]);repeat' (first|exact trivial|refine And.intro ?_ ?_|rfl|(simp (disch:=omega) only[go_sem,if_yes,if_no,if_no];rfl)|(simp (disch:=omega) only[go_sem,if_yes,if_no,if_no]))) (by first|(simp only[go_sem];rfl)|rfl) (by intro n;simp only[go_sem];rfl) ?_
  rintro i c ⟨hi,hcl⟩ hc
  simp only[go_sem]
  by_cases hil:i < p.length
  ·have hji:=hS.j (show i < S.js.length by omega)
   unfold Jb.Ok at hji
   have eji:S.j i=jOf S.js i:=rfl
   rw [eji] at hji
   have hdi:=chkJ_d (hall i hil)
   have hsl:List.take (i - Int.toNat 0) (List.drop (Int.toNat 0) (p.map Sf.row))=(p.take i).map Sf.row:=by simp [List.map_take]
   have hln:(p.take i).length=i:=by rw [List.length_take];omega
   have hpt:∀ k,k < i→pAt (p.take i) k=pAt p k:=fun k hk=>by simp [pAt,List.getD_eq_getElem?_getD,List.getElem?_take,hk]
   repeat' (first|refine st_seq_reg rfl (by first|(simp only[go_sem,Lm];rfl)|rfl) (by first|(simp only[go_sem,Lm];rfl)|rfl) ?_|refine st_op ?_|refine st_det rfl (by simp (disch:=omega) only[go_sem,wr_i64,Lm];rfl) ?_|refine st_loc rfl (by simp (disch:=omega) only[go_sem,wr_i64,Lm];rfl) ?_|refine st_store (by simp (disch:=omega) only[go_sem,wr_i64,Lm];rfl) ?_|(refine st_condS rfl ?_ ?_ <;> intro hg <;> (try simp only[dcT,dcF,bnT,bnF] at hg))|refine st_nil ?_|refine st_tN ?_|refine st_seq ?_|refine st_block ?_|refine st_skip ?_|refine st_exit ?_|refine st_ret ?_|refine st_tE ?_|refine st_bH ?_)
   all_goals try (exfalso;omega)
   simp only[hsl,Lm,hln]
   refine st_loopC (α:=Nat) tab mixed [] [] (by repeat (first|exact trivial|refine ⟨rfl,?_⟩)) [9] [_] (by repeat (first|exact trivial|refine ⟨rfl,?_⟩)) (fun k=>[(83,.int .i64 (k:Nat))]) [(1,_),(2,_),(4,_),(8,_),(9,_),(72,_),(73,_),(74,_),(81,_),(82,_)] (fun _=>[]) [_] (fun k=>k≤i∧∀ b,b < k→clP S p i b=false) (fun k=>i - k) (by decide) 0 ⟨Nat.zero_le _,fun k hk=>absurd hk (Nat.not_lt_zero k)⟩ (by (try simp only[go_sem]);repeat' (first|exact trivial|refine And.intro ?_ ?_|rfl|(simp (disch:=omega) only[go_sem,if_yes,if_no,if_no];rfl)|(simp (disch:=omega) only[go_sem,if_yes,if_no,if_no]))) (by (try simp only[go_sem]);repeat' (first|exact trivial|refine And.intro ?_ ?_|rfl|(simp (disch:=omega) only[go_sem,if_yes,if_no,if_no];rfl)|(simp (disch:=omega) only[go_sem,if_yes,if_no,if_no]))) (by first|(simp only[go_sem];rfl)|rfl) (by intro n;simp only[go_sem];rfl) ?_
   rintro k c2 ⟨hk,hcl2⟩ hc2
   simp only[go_sem]
   by_cases hki:k < i
   ·have hjk:=hS.j (show k < S.js.length by omega)
    unfold Jb.Ok at hjk
    have ejk:S.j k=jOf S.js k:=rfl
    rw [ejk] at hjk
    have hdk:=chkJ_d (hall k (by omega))
    have hpk:=hpt k hki
    cases hc:clP S p i k with
    | true =>
     have e:chkP S p=10:=chkP_clash hl hall hil hki hc
     unfold clP at hc
     simp only[Bool.and_eq_true,decide_eq_true_eq] at hc
     rw [ejk,eji] at hc
     repeat' (first|refine st_seq_reg rfl (by first|(simp only[go_sem,Lm,hln,hpk];rfl)|rfl) (by first|(simp only[go_sem,Lm,hln,hpk];rfl)|rfl) ?_|refine st_reg rfl (by first|(simp only[go_sem,Lm,hln,hpk];rfl)|rfl) (by first|(simp only[go_sem,Lm,hln,hpk];rfl)|rfl) ?_|refine st_seq_draw rfl (by first|(simp only[go_sem,Lm,hln,hpk];rfl)|rfl) (by first|(simp only[go_sem,Lm,hln,hpk];rfl)|rfl) ?_|refine st_op ?_|refine st_det rfl (by simp (disch:=omega) only[go_sem,wr_i64,Lm,hln,hpk];rfl) ?_|refine st_dop rfl ?_|refine st_loc rfl (by simp (disch:=omega) only[go_sem,wr_i64,Lm,hln,hpk];rfl) ?_|refine st_store (by simp (disch:=omega) only[go_sem,wr_i64,Lm,hln,hpk];rfl) ?_|(refine st_pureE (by first|(simp (disch:=omega) only[go_sem,Lm,hln,hpk];rfl)|rfl) rfl (c70 S p k (by omega) (by omega) h7 (by omega) (by omega)) (by first|(simp only[go_sem,Lm,hln,hpk];rfl)|rfl) (by intro n;first|(simp (disch:=omega) only[go_sem];rfl)|rfl) ?_;intro n hn)|(refine st_pureE (by first|(simp (disch:=omega) only[go_sem,Lm,hln,hpk];rfl)|rfl) rfl (c70 S p i (by omega) (by omega) h7 (by omega) (by omega)) (by first|(simp only[go_sem,Lm,hln,hpk];rfl)|rfl) (by intro n;first|(simp (disch:=omega) only[go_sem];rfl)|rfl) ?_;intro n hn)|refine st_dgT rfl rfl rfl rfl ?_|refine st_dgF rfl rfl rfl ?_|(refine st_dgS rfl rfl ?_ ?_ <;> intro hg <;> (try simp only[dcT,dcF,bnT,bnF] at hg))|refine st_condF rfl ?_|(refine st_condS rfl ?_ ?_ <;> intro hg <;> (try simp only[dcT,dcF,bnT,bnF] at hg))|refine st_nil ?_|refine st_dnil ?_|refine st_tN ?_|refine st_seq ?_|refine st_block ?_|refine st_skip ?_|refine st_exit ?_|refine st_ret ?_|refine st_tE ?_|refine st_tR ?_|refine st_bN ?_|refine st_bR ?_|refine st_bH ?_)
     all_goals try (exfalso;omega)
     simp (disch:=omega) only[AEnd,Tryz.results69,aresK,fin,go_sem,implies_true,true_and,and_true,List.reverse_cons,List.reverse_nil]
     rw [e]
    | false =>
     have hst:=stepP hcl2 hc
     unfold clP at hc
     simp only[Bool.and_eq_false_iff,decide_eq_false_iff_not] at hc
     rw [ejk,eji] at hc
     repeat' (first|refine st_seq_reg rfl (by first|(simp only[go_sem,Lm,hln,hpk];rfl)|rfl) (by first|(simp only[go_sem,Lm,hln,hpk];rfl)|rfl) ?_|refine st_reg rfl (by first|(simp only[go_sem,Lm,hln,hpk];rfl)|rfl) (by first|(simp only[go_sem,Lm,hln,hpk];rfl)|rfl) ?_|refine st_seq_draw rfl (by first|(simp only[go_sem,Lm,hln,hpk];rfl)|rfl) (by first|(simp only[go_sem,Lm,hln,hpk];rfl)|rfl) ?_|refine st_op ?_|refine st_det rfl (by simp (disch:=omega) only[go_sem,wr_i64,Lm,hln,hpk];rfl) ?_|refine st_dop rfl ?_|refine st_loc rfl (by simp (disch:=omega) only[go_sem,wr_i64,Lm,hln,hpk];rfl) ?_|refine st_store (by simp (disch:=omega) only[go_sem,wr_i64,Lm,hln,hpk];rfl) ?_|(refine st_pureE (by first|(simp (disch:=omega) only[go_sem,Lm,hln,hpk];rfl)|rfl) rfl (c70 S p k (by omega) (by omega) h7 (by omega) (by omega)) (by first|(simp only[go_sem,Lm,hln,hpk];rfl)|rfl) (by intro n;first|(simp (disch:=omega) only[go_sem];rfl)|rfl) ?_;intro n hn)|(refine st_pureE (by first|(simp (disch:=omega) only[go_sem,Lm,hln,hpk];rfl)|rfl) rfl (c70 S p i (by omega) (by omega) h7 (by omega) (by omega)) (by first|(simp only[go_sem,Lm,hln,hpk];rfl)|rfl) (by intro n;first|(simp (disch:=omega) only[go_sem];rfl)|rfl) ?_;intro n hn)|refine st_dgT rfl rfl rfl rfl ?_|refine st_dgF rfl rfl rfl ?_|(refine st_dgS rfl rfl ?_ ?_ <;> intro hg <;> (try simp only[dcT,dcF,bnT,bnF] at hg))|refine st_condF rfl ?_|(refine st_condS rfl ?_ ?_ <;> intro hg <;> (try simp only[dcT,dcF,bnT,bnF] at hg))|refine st_nil ?_|refine st_dnil ?_|refine st_tN ?_|refine st_seq ?_|refine st_block ?_|refine st_skip ?_|refine st_exit ?_|refine st_ret ?_|refine st_tE ?_|refine st_tR ?_|refine st_bN ?_|refine st_bR ?_|refine st_bH ?_)
     all_goals try (exfalso;omega)
     all_goals
      refine ⟨k+1,⟨by omega,hst⟩,by omega,(by repeat' (first|exact trivial|refine And.intro ?_ ?_|rfl|(simp (disch:=omega) only[go_sem,if_yes,if_no,if_no];rfl)|(simp (disch:=omega) only[go_sem,if_yes,if_no,if_no]))),(by repeat' (first|exact trivial|refine And.intro ?_ ?_|rfl|(simp (disch:=omega) only[go_sem,if_yes,if_no,if_no];rfl)|(simp (disch:=omega) only[go_sem,if_yes,if_no,if_no]))),rfl,(by first|exact HOld.of _ (by omega)|exact HOld.put _ _ _ (by omega))⟩
   ·have ek:k=i:=by omega
    subst ek
    repeat' (first|refine st_seq_reg rfl (by first|(simp only[go_sem,Lm];rfl)|rfl) (by first|(simp only[go_sem,Lm];rfl)|rfl) ?_|refine st_reg rfl (by first|(simp only[go_sem,Lm];rfl)|rfl) (by first|(simp only[go_sem,Lm];rfl)|rfl) ?_|refine st_seq_draw rfl (by first|(simp only[go_sem,Lm];rfl)|rfl) (by first|(simp only[go_sem,Lm];rfl)|rfl) ?_|refine st_op ?_|refine st_det rfl (by simp (disch:=omega) only[go_sem,wr_i64,Lm];rfl) ?_|refine st_dop rfl ?_|refine st_loc rfl (by simp (disch:=omega) only[go_sem,wr_i64,Lm];rfl) ?_|refine st_store (by simp (disch:=omega) only[go_sem,wr_i64,Lm];rfl) ?_|refine st_dgT rfl rfl rfl rfl ?_|refine st_dgF rfl rfl rfl ?_|(refine st_dgS rfl rfl ?_ ?_ <;> intro hg <;> (try simp only[dcT,dcF,bnT,bnF] at hg))|refine st_condF rfl ?_|(refine st_condS rfl ?_ ?_ <;> intro hg <;> (try simp only[dcT,dcF,bnT,bnF] at hg))|refine st_nil ?_|refine st_dnil ?_|refine st_tN ?_|refine st_seq ?_|refine st_block ?_|refine st_skip ?_|refine st_exit ?_|refine st_tE ?_|refine st_bN ?_|refine st_bH ?_)
    all_goals try (exfalso;omega)
    refine ⟨k+1,⟨by omega,stepP hcl hcl2⟩,by omega,(by repeat' (first|exact trivial|refine And.intro ?_ ?_|rfl|(simp (disch:=omega) only[go_sem,if_yes,if_no,if_no];rfl)|(simp (disch:=omega) only[go_sem,if_yes,if_no,if_no]))),(by repeat' (first|exact trivial|refine And.intro ?_ ?_|rfl|(simp (disch:=omega) only[go_sem,if_yes,if_no,if_no];rfl)|(simp (disch:=omega) only[go_sem,if_yes,if_no,if_no]))),rfl,(by first|exact HOld.of _ (by omega)|exact HOld.put _ _ _ (by omega))⟩
  ·have ei:i=p.length:=by omega
   subst ei
   repeat' (first|refine st_seq_reg rfl (by first|(simp only[go_sem,Lm];rfl)|rfl) (by first|(simp only[go_sem,Lm];rfl)|rfl) ?_|refine st_op ?_|refine st_det rfl (by simp (disch:=omega) only[go_sem,wr_i64,Lm];rfl) ?_|refine st_loc rfl (by simp (disch:=omega) only[go_sem,wr_i64,Lm];rfl) ?_|refine st_store (by simp (disch:=omega) only[go_sem,wr_i64,Lm];rfl) ?_|(refine st_condS rfl ?_ ?_ <;> intro hg <;> (try simp only[dcT,dcF,bnT,bnF] at hg))|refine st_nil ?_|refine st_tN ?_|refine st_seq ?_|refine st_block ?_|refine st_skip ?_|refine st_exit ?_|refine st_ret ?_|refine st_tE ?_|refine st_bH ?_)
   all_goals try (exfalso;omega)
   simp (disch:=omega) only[AEnd,Tryz.results69,aresK,fin,go_sem,implies_true,true_and,and_true,List.reverse_cons,List.reverse_nil]
   rw [chkP_none hl hall hcl]
end Go.Proofs.YtaijkalhkgjakaaGreatDoor
