/- Contracts of functions that the claim reaches: what each call gives, told in our own logic. Conditions: those of each theorem. -/
import Derived.Test.YtefogfgddofdmaaGreatDoorG3
open Nat (reduceAdd reduceMul reduceEqDiff reduceLeDiff)
open List (length_map)
set_option linter.all false
set_option linter.unusedSimpArgs false
set_option linter.unusedVariables false
namespace Go.Proofs.YtefogfgddofdmaaGreatDoor
open Go.Av
attribute [local irreducible] thenA blockA awp awpOps awpD awp1
set_option maxHeartbeats 8000000
set_option maxRecDepth 20000
theorem c48 (l:List Bl) (g:FuncId) (cap:List AV) (F:Nat→Int) (hc:cap.all noL=true) (hl:l.length≤1000) (hF:∀ i,i < l.length→-10000000000≤F i∧F i≤10000000000)
    (hG:∀ i,i < l.length→Pure Tryz.prog g ([.int .i64 (i:Nat),.agg (bl l i).row] ++ cap) (fun v=>v=.int .i64 (F i))) :
    Pure Tryz.prog 48 [.lst 3 (l.map Bl.row),.fn (.func g) [] cap] (fun v=>v=.int .i64 (sumF F l.length)):=by
  intro h
  refine ACalls.forget (ACalls.of tab mixed Tryz.call48 Tryz.func48 rfl (fi:=⟨23,[7],[],none,[]⟩) rfl rfl (Nat.le_of_ble_eq_true rfl) (by decide) ?_)
  unfold startA
  repeat' (first|refine st_seq_reg rfl (by first|(simp only[go_sem];rfl)|rfl) (by first|(simp only[go_sem];rfl)|rfl) ?_|refine st_op ?_|refine st_det rfl (by simp (disch:=omega) only[go_sem,wr_i64,if_yes,if_no,↓reduceIte,reduceAdd,reduceMul,reduceEqDiff,Nat.reduceBEq,reduceLeDiff];rfl) ?_|refine st_nil ?_|refine st_seq ?_|refine st_block ?_)
  refine st_loopC (α:=Nat) tab mixed [] [] (by repeat (first|exact trivial|refine ⟨rfl,?_⟩)) [] [] (by repeat (first|exact trivial|refine ⟨rfl,?_⟩)) (fun i=>[(10,.int .i64 i),(5,.int .i64 (sumF F i))]) [(1,_),(8,_),(9,_)] (fun _=>[]) [] (fun i=>i≤l.length) (fun i=>l.length - i) (by decide) 0 (Nat.zero_le _) (by (try simp only[go_sem]);repeat' (first|exact trivial|refine And.intro ?_ ?_|rfl|(simp (disch:=omega) only[go_sem,if_yes,if_no,↓reduceIte,reduceAdd,reduceMul,reduceEqDiff,Nat.reduceBEq,reduceLeDiff];rfl)|(simp (disch:=omega) only[go_sem,if_yes,if_no,↓reduceIte,reduceAdd,reduceMul,reduceEqDiff,Nat.reduceBEq,reduceLeDiff]))) (by (try simp only[go_sem]);repeat' (first|exact trivial|refine And.intro ?_ ?_|rfl|(simp (disch:=omega) only[go_sem,if_yes,if_no,↓reduceIte,reduceAdd,reduceMul,reduceEqDiff,Nat.reduceBEq,reduceLeDiff];rfl)|(simp (disch:=omega) only[go_sem,if_yes,if_no,↓reduceIte,reduceAdd,reduceMul,reduceEqDiff,Nat.reduceBEq,reduceLeDiff]))) (by first|(simp only[go_sem];rfl)|rfl) (by intro n;simp only[go_sem];rfl) ?_
  intro i c i1 hc
  simp only[go_sem]
  have hs:=sumF_le hl hF i1
  have hf:=hF i
  repeat' (first|refine st_seq_reg rfl (by first|(simp only[go_sem];rfl)|rfl) (by first|(simp only[go_sem];rfl)|rfl) ?_|refine st_reg rfl (by first|(simp only[go_sem];rfl)|rfl) (by first|(simp only[go_sem];rfl)|rfl) ?_|refine st_op ?_|refine st_det rfl (by simp (disch:=omega) only[go_sem,wr_i64,if_yes,if_no,↓reduceIte,reduceAdd,reduceMul,reduceEqDiff,Nat.reduceBEq,reduceLeDiff];rfl) ?_|refine st_loc rfl (by simp (disch:=omega) only[go_sem,wr_i64,if_yes,if_no,↓reduceIte,reduceAdd,reduceMul,reduceEqDiff,Nat.reduceBEq,reduceLeDiff];rfl) ?_|refine st_store (by simp (disch:=omega) only[go_sem,wr_i64,if_yes,if_no,↓reduceIte,reduceAdd,reduceMul,reduceEqDiff,Nat.reduceBEq,reduceLeDiff];rfl) ?_|(refine st_pureV (by first|(simp only[go_sem];rfl)|rfl) (by first|(simp (disch:=omega) only[go_sem];rfl)|rfl) rfl (hG i (by omega)) (by first|(simp only[go_sem];rfl)|rfl) (by intro n;first|(simp (disch:=omega) only[go_sem];rfl)|rfl) ?_;intro v n hv hn;subst hv)|(refine st_condS rfl ?_ ?_ <;> intro hg <;> (try simp only[decide_eq_true_eq,decide_eq_false_iff_not,Bool.not_eq_true',Bool.not_eq_false'] at hg))|refine st_nil ?_|refine st_tN ?_|refine st_seq ?_|refine st_block ?_|refine st_skip ?_|refine st_exit ?_|refine st_ret ?_|refine st_tE ?_|refine st_bN ?_|refine st_bH ?_)
  · refine ⟨i+1,(by show i+1≤l.length;omega),by show l.length - (i+1) < l.length - i;omega,(by repeat' (first|exact trivial|refine And.intro ?_ ?_|rfl|(simp (disch:=omega) only[go_sem,if_yes,if_no,↓reduceIte,reduceAdd,reduceMul,reduceEqDiff,Nat.reduceBEq,reduceLeDiff];rfl)|(simp (disch:=omega) only[go_sem,if_yes,if_no,↓reduceIte,reduceAdd,reduceMul,reduceEqDiff,Nat.reduceBEq,reduceLeDiff]))),(by repeat' (first|exact trivial|refine And.intro ?_ ?_|rfl|(simp (disch:=omega) only[go_sem,if_yes,if_no,↓reduceIte,reduceAdd,reduceMul,reduceEqDiff,Nat.reduceBEq,reduceLeDiff];rfl)|(simp (disch:=omega) only[go_sem,if_yes,if_no,↓reduceIte,reduceAdd,reduceMul,reduceEqDiff,Nat.reduceBEq,reduceLeDiff]))),rfl,(by first|exact HOld.of _ (by omega)|exact HOld.put _ _ _ (by omega))⟩
  · simp (disch:=omega) only[AEnd,Tryz.results48,aresK,fin,go_sem,↓reduceIte,reduceEqDiff,reduceAdd,reduceLeDiff,if_yes,if_no,implies_true,true_and,and_true,List.reverse_cons,List.reverse_nil]
    obtain rfl:i=l.length:=by omega
    rfl
theorem c51 (l:List Int) (g:FuncId) (cap:List AV) (F:Nat→Int) (hc:cap.all noL=true) (hl:l.length≤1000) (hF:∀ i,i < l.length→-10000000000≤F i∧F i≤10000000000)
    (hG:∀ i,i < l.length→Pure Tryz.prog g ([.int .i64 (i:Nat),.int .i64 (l.getD i 0)] ++ cap) (fun v=>v=.int .i64 (F i))) :
    Pure Tryz.prog 51 [.lst 1 (l.map iv),.fn (.func g) [] cap] (fun v=>v=.int .i64 (sumF F l.length)):=by
  intro h
  refine ACalls.forget (ACalls.of tab mixed Tryz.call51 Tryz.func51 rfl (fi:=⟨23,[],[],none,[]⟩) rfl rfl (Nat.le_of_ble_eq_true rfl) (by decide) ?_)
  unfold startA
  repeat' (first|refine st_seq_reg rfl (by first|(simp only[go_sem];rfl)|rfl) (by first|(simp only[go_sem];rfl)|rfl) ?_|refine st_op ?_|refine st_det rfl (by simp (disch:=omega) only[go_sem,wr_i64,if_yes,if_no,↓reduceIte,reduceAdd,reduceMul,reduceEqDiff,Nat.reduceBEq,reduceLeDiff];rfl) ?_|refine st_nil ?_|refine st_seq ?_|refine st_block ?_)
  refine st_loopC (α:=Nat) tab mixed [] [] (by repeat (first|exact trivial|refine ⟨rfl,?_⟩)) [] [] (by repeat (first|exact trivial|refine ⟨rfl,?_⟩)) (fun i=>[(10,.int .i64 i),(5,.int .i64 (sumF F i))]) [(1,_),(8,_),(9,_)] (fun _=>[]) [] (fun i=>i≤l.length) (fun i=>l.length - i) (by decide) 0 (Nat.zero_le _) (by (try simp only[go_sem]);repeat' (first|exact trivial|refine And.intro ?_ ?_|rfl|(simp (disch:=omega) only[go_sem,if_yes,if_no,↓reduceIte,reduceAdd,reduceMul,reduceEqDiff,Nat.reduceBEq,reduceLeDiff];rfl)|(simp (disch:=omega) only[go_sem,if_yes,if_no,↓reduceIte,reduceAdd,reduceMul,reduceEqDiff,Nat.reduceBEq,reduceLeDiff]))) (by (try simp only[go_sem]);repeat' (first|exact trivial|refine And.intro ?_ ?_|rfl|(simp (disch:=omega) only[go_sem,if_yes,if_no,↓reduceIte,reduceAdd,reduceMul,reduceEqDiff,Nat.reduceBEq,reduceLeDiff];rfl)|(simp (disch:=omega) only[go_sem,if_yes,if_no,↓reduceIte,reduceAdd,reduceMul,reduceEqDiff,Nat.reduceBEq,reduceLeDiff]))) (by first|(simp only[go_sem];rfl)|rfl) (by intro n;simp only[go_sem];rfl) ?_
  intro i c i1 hc
  simp only[go_sem]
  have hs:=sumF_le hl hF i1
  have hf:=hF i
  repeat' (first|refine st_seq_reg rfl (by first|(simp only[go_sem];rfl)|rfl) (by first|(simp only[go_sem];rfl)|rfl) ?_|refine st_reg rfl (by first|(simp only[go_sem];rfl)|rfl) (by first|(simp only[go_sem];rfl)|rfl) ?_|refine st_op ?_|refine st_det rfl (by simp (disch:=omega) only[go_sem,wr_i64,if_yes,if_no,↓reduceIte,reduceAdd,reduceMul,reduceEqDiff,Nat.reduceBEq,reduceLeDiff];rfl) ?_|(refine st_pureV (by first|(simp only[go_sem];rfl)|rfl) (by first|(simp (disch:=omega) only[go_sem];rfl)|rfl) rfl (hG i (by omega)) (by first|(simp only[go_sem];rfl)|rfl) (by intro n;first|(simp (disch:=omega) only[go_sem];rfl)|rfl) ?_;intro v n hv hn;subst hv)|(refine st_condS rfl ?_ ?_ <;> intro hg <;> (try simp only[decide_eq_true_eq,decide_eq_false_iff_not,Bool.not_eq_true',Bool.not_eq_false'] at hg))|refine st_nil ?_|refine st_tN ?_|refine st_seq ?_|refine st_block ?_|refine st_skip ?_|refine st_exit ?_|refine st_ret ?_|refine st_tE ?_|refine st_bN ?_|refine st_bH ?_)
  · refine ⟨i+1,(by show i+1≤l.length;omega),by show l.length - (i+1) < l.length - i;omega,(by repeat' (first|exact trivial|refine And.intro ?_ ?_|rfl|(simp (disch:=omega) only[go_sem,if_yes,if_no,↓reduceIte,reduceAdd,reduceMul,reduceEqDiff,Nat.reduceBEq,reduceLeDiff];rfl)|(simp (disch:=omega) only[go_sem,if_yes,if_no,↓reduceIte,reduceAdd,reduceMul,reduceEqDiff,Nat.reduceBEq,reduceLeDiff]))),(by repeat' (first|exact trivial|refine And.intro ?_ ?_|rfl|(simp (disch:=omega) only[go_sem,if_yes,if_no,↓reduceIte,reduceAdd,reduceMul,reduceEqDiff,Nat.reduceBEq,reduceLeDiff];rfl)|(simp (disch:=omega) only[go_sem,if_yes,if_no,↓reduceIte,reduceAdd,reduceMul,reduceEqDiff,Nat.reduceBEq,reduceLeDiff]))),rfl,(by first|exact HOld.of _ (by omega)|exact HOld.put _ _ _ (by omega))⟩
  · simp (disch:=omega) only[AEnd,Tryz.results51,aresK,fin,go_sem,↓reduceIte,reduceEqDiff,reduceAdd,reduceLeDiff,if_yes,if_no,implies_true,true_and,and_true,List.reverse_cons,List.reverse_nil]
    obtain rfl:i=l.length:=by omega
    rfl
def payerB (l:Lg) (k:Nat) (s:Int):Bool:=(List.range l.bs.length).any fun i=>hasB s i && payB (fd l.fs k) (bl l.bs i)
theorem all_step {p:Nat→Bool} {i:Nat} (h:∀ j,j < i→p j=false) (hi:p i=false):∀ j,j < i+1→p j=false:=fun j hj=>by
  by_cases e:j=i
  · rw [e];exact hi
  · exact h j (by omega)
theorem c42o {l:Lg} (hl:LgOk l) {k i:Nat} (hk:k < l.fs.length) (hi:i < l.bs.length):Pure Tryz.prog 42 [.agg (fd l.fs k).row,.agg (bl l.bs i).row] (fun v=>v=.bool (payB (fd l.fs k) (bl l.bs i))) :=
  c42 _ _ (by have:=(hl.f _ (fd_mem hk)).many;omega) (fun u hu=>((hl.f _ (fd_mem hk)).uses u hu).1) (hl.b _ (bl_mem hi)).use.1
theorem c43 (l:Lg) (k:Nat) (s:Int) (hl:LgOk l) (hk:k < l.fs.length):Pure Tryz.prog 43 [l.av,.int .i64 (k:Nat),.int .i64 s] (fun v=>v=.bool (payerB l k s)):=by
  have hb:=hl.bn;have hfn:=hl.fn
  intro h
  refine ACalls.forget (ACalls.of tab mixed Tryz.call43 Tryz.func43 rfl (fi:=⟨30,[8],[3],none,[(4,[0,0,3,7,15,31,15,127,255,15,1023,2047],[(0,false),(1,false),(2,false),(3,false),(4,false),(5,true),(6,false),(7,false),(8,true),(9,true),(10,false),(11,false)])]⟩) rfl rfl (Nat.le_of_ble_eq_true rfl) (by decide) ?_)
  unfold startA
  simp only[go_sem]
  repeat' (first|refine st_seq_reg rfl (by first|(simp only[go_sem];rfl)|rfl) (by first|(simp only[go_sem];rfl)|rfl) ?_|refine st_op ?_|refine st_det rfl (by simp (disch:=omega) only[go_sem,wr_i64,if_yes,if_no,↓reduceIte,reduceAdd,reduceMul,reduceEqDiff,Nat.reduceBEq,reduceLeDiff];rfl) ?_|refine st_nil ?_|refine st_seq ?_|refine st_block ?_)
  refine st_loopC (α:=Nat) tab mixed [] [] (by repeat (first|exact trivial|refine ⟨rfl,?_⟩)) [] [] (by repeat (first|exact trivial|refine ⟨rfl,?_⟩)) (fun i=>[(12,.int .i64 i)]) [(1,_),(2,_),(3,_),(10,_),(11,_)] (fun _=>[]) [] (fun i=>i≤l.bs.length∧∀ j,j < i→(hasB s j && payB (fd l.fs k) (bl l.bs j))=false) (fun i=>l.bs.length - i) (by decide) 0 ⟨Nat.zero_le _,fun j hj=>absurd hj (Nat.not_lt_zero _)⟩ (by (try simp only[go_sem]);repeat' (first|exact trivial|refine And.intro ?_ ?_|rfl|(simp (disch:=omega) only[go_sem,if_yes,if_no,↓reduceIte,reduceAdd,reduceMul,reduceEqDiff,Nat.reduceBEq,reduceLeDiff];rfl)|(simp (disch:=omega) only[go_sem,if_yes,if_no,↓reduceIte,reduceAdd,reduceMul,reduceEqDiff,Nat.reduceBEq,reduceLeDiff]))) (by (try simp only[go_sem]);repeat' (first|exact trivial|refine And.intro ?_ ?_|rfl|(simp (disch:=omega) only[go_sem,if_yes,if_no,↓reduceIte,reduceAdd,reduceMul,reduceEqDiff,Nat.reduceBEq,reduceLeDiff];rfl)|(simp (disch:=omega) only[go_sem,if_yes,if_no,↓reduceIte,reduceAdd,reduceMul,reduceEqDiff,Nat.reduceBEq,reduceLeDiff]))) (by first|(simp only[go_sem];rfl)|rfl) (by intro n;simp only[go_sem];rfl) ?_
  rintro i c ⟨i1,i2⟩ hc
  simp only[go_sem]
  have hp:=fun (hi:i < l.bs.length)=>c42o hl hk hi
  repeat' (first|refine st_seq_reg rfl (by first|(simp only[go_sem,length_map];rfl)|rfl) (by first|(simp only[go_sem,length_map];rfl)|rfl) ?_|refine st_reg rfl (by first|(simp only[go_sem,length_map];rfl)|rfl) (by first|(simp only[go_sem,length_map];rfl)|rfl) ?_|refine st_seq_draw rfl (by first|(simp only[go_sem,length_map];rfl)|rfl) (by first|(simp only[go_sem,length_map];rfl)|rfl) ?_|refine st_op ?_|refine st_det rfl (by simp (disch:=omega) only[go_sem,wr_i64,if_yes,if_no,↓reduceIte,reduceAdd,reduceMul,reduceEqDiff,Nat.reduceBEq,reduceLeDiff,length_map];rfl) ?_|refine st_dop rfl ?_|refine st_loc rfl (by simp (disch:=omega) only[go_sem,wr_i64,if_yes,if_no,↓reduceIte,reduceAdd,reduceMul,reduceEqDiff,Nat.reduceBEq,reduceLeDiff,length_map];rfl) ?_|refine st_store (by simp (disch:=omega) only[go_sem,wr_i64,if_yes,if_no,↓reduceIte,reduceAdd,reduceMul,reduceEqDiff,Nat.reduceBEq,reduceLeDiff,length_map];rfl) ?_|(refine st_pureE (by first|(simp (disch:=omega) only[go_sem,length_map];rfl)|rfl) rfl (c46 s (i:Nat) (by omega)) (by first|(simp only[go_sem,length_map];rfl)|rfl) (by intro n;first|(simp (disch:=omega) only[go_sem];rfl)|rfl) ?_;intro n hn)|(refine st_pureE (by first|(simp (disch:=omega) only[go_sem,length_map];rfl)|rfl) rfl (hp (by omega)) (by first|(simp only[go_sem,length_map];rfl)|rfl) (by intro n;first|(simp (disch:=omega) only[go_sem];rfl)|rfl) ?_;intro n hn)|refine st_dgT rfl rfl rfl rfl ?_|refine st_dgF rfl rfl rfl ?_|(refine st_dgS rfl rfl ?_ ?_ <;> intro hg <;> (try simp only[decide_eq_true_eq,decide_eq_false_iff_not,Bool.not_eq_true',Bool.not_eq_false'] at hg))|refine st_condF rfl ?_|(refine st_condS rfl ?_ ?_ <;> intro hg <;> (try simp only[decide_eq_true_eq,decide_eq_false_iff_not,Bool.not_eq_true',Bool.not_eq_false'] at hg))|refine st_nil ?_|refine st_dnil ?_|refine st_tN ?_|refine st_seq ?_|refine st_block ?_|refine st_skip ?_|refine st_exit ?_|refine st_ret ?_|refine st_tE ?_|refine st_tR ?_|refine st_bN ?_|refine st_bR ?_|refine st_bH ?_)
  all_goals try (exfalso;omega)
  · have e:payerB l k s=true:=List.any_eq_true.2 ⟨i,List.mem_range.2 (by omega),by simp [*]⟩
    simp (disch:=omega) only[AEnd,Tryz.results43,aresK,fin,go_sem,↓reduceIte,reduceEqDiff,reduceAdd,reduceLeDiff,if_yes,if_no,implies_true,true_and,and_true,List.reverse_cons,List.reverse_nil]
    rw [e]
  · refine ⟨i+1,⟨by show i+1≤l.bs.length;omega,all_step i2 (by simp [*])⟩,by show l.bs.length - (i+1) < l.bs.length - i;omega,(by repeat' (first|exact trivial|refine And.intro ?_ ?_|rfl|(simp (disch:=omega) only[go_sem,if_yes,if_no,↓reduceIte,reduceAdd,reduceMul,reduceEqDiff,Nat.reduceBEq,reduceLeDiff];rfl)|(simp (disch:=omega) only[go_sem,if_yes,if_no,↓reduceIte,reduceAdd,reduceMul,reduceEqDiff,Nat.reduceBEq,reduceLeDiff]))),(by repeat' (first|exact trivial|refine And.intro ?_ ?_|rfl|(simp (disch:=omega) only[go_sem,if_yes,if_no,↓reduceIte,reduceAdd,reduceMul,reduceEqDiff,Nat.reduceBEq,reduceLeDiff];rfl)|(simp (disch:=omega) only[go_sem,if_yes,if_no,↓reduceIte,reduceAdd,reduceMul,reduceEqDiff,Nat.reduceBEq,reduceLeDiff]))),rfl,(by first|exact HOld.of _ (by omega)|exact HOld.put _ _ _ (by omega))⟩
  · refine ⟨i+1,⟨by show i+1≤l.bs.length;omega,all_step i2 (by simp [*])⟩,by show l.bs.length - (i+1) < l.bs.length - i;omega,(by repeat' (first|exact trivial|refine And.intro ?_ ?_|rfl|(simp (disch:=omega) only[go_sem,if_yes,if_no,↓reduceIte,reduceAdd,reduceMul,reduceEqDiff,Nat.reduceBEq,reduceLeDiff];rfl)|(simp (disch:=omega) only[go_sem,if_yes,if_no,↓reduceIte,reduceAdd,reduceMul,reduceEqDiff,Nat.reduceBEq,reduceLeDiff]))),(by repeat' (first|exact trivial|refine And.intro ?_ ?_|rfl|(simp (disch:=omega) only[go_sem,if_yes,if_no,↓reduceIte,reduceAdd,reduceMul,reduceEqDiff,Nat.reduceBEq,reduceLeDiff];rfl)|(simp (disch:=omega) only[go_sem,if_yes,if_no,↓reduceIte,reduceAdd,reduceMul,reduceEqDiff,Nat.reduceBEq,reduceLeDiff]))),rfl,(by first|exact HOld.of _ (by omega)|exact HOld.put _ _ _ (by omega))⟩
  · obtain rfl:i=l.bs.length:=by omega
    have e:payerB l k s=false:=List.any_eq_false.2 fun j hj=>by rw [i2 j (List.mem_range.1 hj)];decide
    simp (disch:=omega) only[AEnd,Tryz.results43,aresK,fin,go_sem,↓reduceIte,reduceEqDiff,reduceAdd,reduceLeDiff,if_yes,if_no,implies_true,true_and,and_true,List.reverse_cons,List.reverse_nil]
    rw [e]
def dueF (l:Lg) (s:Int) (i:Nat):Int:=if hasB s (i:Nat)=true then (bl l.bs i).amt else 0
def dueB (l:Lg) (s:Int):Int:=sumF (dueF l s) l.bs.length
theorem c78 (l:Lg) (s:Int) (i:Nat):Pure Tryz.prog 78 ([.int .i64 (i:Nat),.agg (bl l.bs i).row] ++ [.iptr [.int .i64 s] 0]) (fun v=>v=.int .i64 (dueF l s i)):=by
  intro h
  refine ACalls.forget (ACalls.of tab mixed Tryz.call78 Tryz.func78 rfl (fi:=⟨11,[],[4],none,[]⟩) rfl rfl (Nat.le_of_ble_eq_true rfl) (by decide) ?_)
  unfold startA
  simp only[go_sem]
  repeat' (first|refine st_seq_reg rfl (by first|(simp only[go_sem];rfl)|rfl) (by first|(simp only[go_sem];rfl)|rfl) ?_|refine st_op ?_|refine st_det rfl (by simp (disch:=omega) only[go_sem,wr_i64,if_yes,if_no,↓reduceIte,reduceAdd,reduceMul,reduceEqDiff,Nat.reduceBEq,reduceLeDiff];rfl) ?_|(refine st_pureE (by first|(simp (disch:=omega) only[go_sem];rfl)|rfl) rfl (c46 s (i:Nat) (by omega)) (by first|(simp only[go_sem];rfl)|rfl) (by intro n;first|(simp (disch:=omega) only[go_sem];rfl)|rfl) ?_;intro n hn)|(refine st_condS rfl ?_ ?_ <;> intro hg <;> (try simp only[decide_eq_true_eq,decide_eq_false_iff_not,Bool.not_eq_true',Bool.not_eq_false'] at hg))|refine st_nil ?_|refine st_tN ?_|refine st_seq ?_|refine st_skip ?_|refine st_ret ?_|refine st_tR ?_)
  all_goals
    simp (disch:=omega) only[AEnd,Tryz.results78,aresK,fin,go_sem,↓reduceIte,reduceEqDiff,reduceAdd,reduceLeDiff,if_yes,if_no,implies_true,true_and,and_true,List.reverse_cons,List.reverse_nil]
    simp [dueF, *]
theorem dueF_bd {l:Lg} (hl:LgOk l) (s:Int) (i:Nat) (hi:i < l.bs.length):0≤dueF l s i∧dueF l s i≤1000000000:=by
  have:=(hl.b _ (bl_mem hi)).amt
  unfold dueF
  split <;> omega
theorem c65 (l:Lg) (s:Int) (hl:LgOk l):Pure Tryz.prog 65 [l.av,.int .i64 s] (fun v=>v=.int .i64 (dueB l s)):=by
  have hb:=hl.bn
  have ht:=c48 l.bs 78 [.iptr [.int .i64 s] 0] (dueF l s) rfl (by omega) (fun i hi=>by have:=dueF_bd hl s i hi;omega) (fun i _=>c78 l s i)
  intro h
  refine ACalls.forget (ACalls.of tab mixed Tryz.call65 Tryz.func65 rfl (fi:=⟨9,[],[2,3],none,[]⟩) rfl rfl (Nat.le_of_ble_eq_true rfl) (by decide) ?_)
  unfold startA
  simp only[go_sem]
  repeat' (first|refine st_seq_reg rfl (by first|(simp only[go_sem];rfl)|rfl) (by first|(simp only[go_sem];rfl)|rfl) ?_|refine st_op ?_|refine st_det rfl (by simp (disch:=omega) only[go_sem,wr_i64,if_yes,if_no,↓reduceIte,reduceAdd,reduceMul,reduceEqDiff,Nat.reduceBEq,reduceLeDiff];rfl) ?_|(refine st_pureE (by first|(simp (disch:=omega) only[go_sem];rfl)|rfl) rfl (ht) (by first|(simp only[go_sem];rfl)|rfl) (by intro n;first|(simp (disch:=omega) only[go_sem];rfl)|rfl) ?_;intro n hn)|refine st_nil ?_|refine st_ret ?_)
  simp (disch:=omega) only[AEnd,Tryz.results65,aresK,fin,go_sem,↓reduceIte,reduceEqDiff,reduceAdd,reduceLeDiff,if_yes,if_no,implies_true,true_and,and_true,List.reverse_cons,List.reverse_nil]
  rfl
def givF (l:Lg) (rs:List Int) (s:Int) (i:Nat):Int:=if payerB l i s=true then rs.getD i 0 else 0
def slackB (l:Lg) (rs:List Int) (s:Int):Int:=sumF (givF l rs s) l.fs.length - dueB l s
theorem c64 (l:Lg) (rs:List Int) (s:Int) (hl:LgOk l) (hr:rs.length=8) (i:Nat) (hi:i < l.fs.length):Pure Tryz.prog 64 ([.int .i64 (i:Nat),.agg (fd l.fs i).row] ++ [.iptr [.lst 4 (l.fs.map Fd.row),.lst 3 (l.bs.map Bl.row)] 0,.iptr [.int .i64 s] 0,.iptr (rs.map iA) 0]) (fun v=>v=.int .i64 (givF l rs s i)):=by
  have hfn:=hl.fn
  intro h
  refine ACalls.forget (ACalls.of tab mixed Tryz.call64 Tryz.func64 rfl (fi:=⟨15,[],[6],none,[]⟩) rfl rfl (Nat.le_of_ble_eq_true rfl) (by decide) ?_)
  unfold startA
  simp only[go_sem]
  repeat' (first|refine st_seq_reg rfl (by first|(simp only[go_sem,hr];rfl)|rfl) (by first|(simp only[go_sem,hr];rfl)|rfl) ?_|refine st_op ?_|refine st_det rfl (by simp (disch:=omega) only[go_sem,wr_i64,if_yes,if_no,↓reduceIte,reduceAdd,reduceMul,reduceEqDiff,Nat.reduceBEq,reduceLeDiff,hr];rfl) ?_|(refine st_pureE (by first|(simp (disch:=omega) only[go_sem,hr];rfl)|rfl) rfl (c43 l i s hl hi) (by first|(simp only[go_sem,hr];rfl)|rfl) (by intro n;first|(simp (disch:=omega) only[go_sem];rfl)|rfl) ?_;intro n hn)|(refine st_condS rfl ?_ ?_ <;> intro hg <;> (try simp only[decide_eq_true_eq,decide_eq_false_iff_not,Bool.not_eq_true',Bool.not_eq_false'] at hg))|refine st_nil ?_|refine st_tN ?_|refine st_seq ?_|refine st_skip ?_|refine st_ret ?_|refine st_tR ?_)
  all_goals
    simp (disch:=omega) only[AEnd,Tryz.results64,aresK,fin,go_sem,↓reduceIte,reduceEqDiff,reduceAdd,reduceLeDiff,if_yes,if_no,implies_true,true_and,and_true,List.reverse_cons,List.reverse_nil]
    simp [givF, *]
def RsOk (rs:List Int):Prop:=rs.length=8∧∀ i,i < 8→0≤rs.getD i 0∧rs.getD i 0≤1000000000
theorem givF_bd {l:Lg} {rs:List Int} (hl:LgOk l) (hr:RsOk rs) (s:Int) (i:Nat) (hi:i < l.fs.length):0≤givF l rs s i∧givF l rs s i≤1000000000:=by
  have hfn:=hl.fn
  have:=hr.2 i (by omega)
  unfold givF
  split <;> omega
theorem c44 (l:Lg) (rs:List Int) (s:Int) (hl:LgOk l) (hr:RsOk rs):Pure Tryz.prog 44 [ravN rs,l.av,.int .i64 s] (fun v=>v=.int .i64 (slackB l rs s)):=by
  have hfn:=hl.fn;have hbn:=hl.bn
  have h8:=hr.1
  have b1:∀ i,i < l.fs.length→-10000000000≤givF l rs s i∧givF l rs s i≤10000000000:=fun i hi=>by have:=givF_bd hl hr s i hi;omega
  have b2:∀ i,i < l.bs.length→-10000000000≤dueF l s i∧dueF l s i≤10000000000:=fun i hi=>by have:=dueF_bd hl s i hi;omega
  have ht:=c63 l.fs 64 [.iptr [.lst 4 (l.fs.map Fd.row),.lst 3 (l.bs.map Bl.row)] 0,.iptr [.int .i64 s] 0,.iptr (rs.map iA) 0] (givF l rs s) rfl (by omega) b1 (fun i hi=>c64 l rs s hl hr.1 i hi)
  have hd:=c65 l s hl
  have q1:=sumF_le (by omega) b1 (Nat.le_refl _)
  have q2:-10000000000000≤dueB l s∧dueB l s≤10000000000000:=sumF_le (by omega) b2 (Nat.le_refl _)
  intro h
  refine ACalls.forget (ACalls.of tab mixed Tryz.call44 Tryz.func44 rfl (fi:=⟨15,[],[3,4,5],none,[(1,[0,1,0,7,0,0,63,127,255],[(0,false),(1,true),(2,false),(4,true),(5,true),(3,false),(6,false),(7,false),(8,false)])]⟩) rfl rfl (Nat.le_of_ble_eq_true rfl) (by decide) ?_)
  unfold startA
  simp only[go_sem]
  repeat' (first|refine st_seq_reg rfl (by first|(simp only[go_sem,h8];rfl)|rfl) (by first|(simp only[go_sem,h8];rfl)|rfl) ?_|refine st_seq_draw rfl (by first|(simp only[go_sem,h8];rfl)|rfl) (by first|(simp only[go_sem,h8];rfl)|rfl) ?_|refine st_op ?_|refine st_det rfl (by simp (disch:=omega) only[go_sem,wr_i64,if_yes,if_no,↓reduceIte,reduceAdd,reduceMul,reduceEqDiff,Nat.reduceBEq,reduceLeDiff,h8];rfl) ?_|refine st_dop rfl ?_|(refine st_pureE (by first|(simp (disch:=omega) only[go_sem,h8];rfl)|rfl) rfl (ht) (by first|(simp only[go_sem,h8];rfl)|rfl) (by intro n;first|(simp (disch:=omega) only[go_sem];rfl)|rfl) ?_;intro n hn)|(refine st_pureE (by first|(simp (disch:=omega) only[go_sem,h8];rfl)|rfl) rfl (hd) (by first|(simp only[go_sem,h8];rfl)|rfl) (by intro n;first|(simp (disch:=omega) only[go_sem];rfl)|rfl) ?_;intro n hn)|refine st_nil ?_|refine st_dnil ?_|refine st_ret ?_)
  simp (disch:=omega) only[AEnd,Tryz.results44,aresK,fin,go_sem,↓reduceIte,reduceEqDiff,reduceAdd,reduceLeDiff,if_yes,if_no,implies_true,true_and,and_true,List.reverse_cons,List.reverse_nil]
  rfl
end Go.Proofs.YtefogfgddofdmaaGreatDoor
