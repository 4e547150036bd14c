/- Contracts of functions that the claim reaches: what each call gives, told in our own logic. Conditions: those of each theorem. -/
import Derived.Test.YtefogfgddofdmaaDoorG3
open List (length_map)
set_option linter.all false
set_option linter.unusedSimpArgs false
set_option linter.unusedVariables false
namespace Go.Proofs.YtefogfgddofdmaaDoor
open Go.Av
attribute [local irreducible] thenA blockA awp awpOps awpD awp1
attribute [local go_sem_proc] Nat.reduceAdd Nat.reduceMul Nat.reduceEqDiff Nat.reduceBEq Nat.reduceLeDiff
attribute [local go_sem_proc ↓] reduceIte
attribute [local go_sem] if_yes if_no
set_option maxHeartbeats 8000000
set_option maxRecDepth 20000
theorem c31 (l:List Bl) (g:FuncId) (cap:List AV) (F:Nat→Int) (hc:cap.all noL=true) (hl:l.length≤1000) (hF:∀ i,i < l.length→-10000000000≤F i∧F i≤10000000000)
  (hG:∀ i,i < l.length→Pure Tryd.prog g ([.int .i64 (i:Nat),.agg (bl l i).row] ++ cap) (fun v=>v=.int .i64 (F i))) :
  Pure Tryd.prog 31 [.lst 3 (l.map Bl.row),.fn (.func g) [] cap] (fun v=>v=.int .i64 (sumF F l.length)):=by
 intro h
 refine ACalls.forget (ACalls.of tab mixed Tryd.call31 Tryd.func31 rfl (fi:=⟨23,[7],[],none,[]⟩) rfl rfl (Nat.le_of_ble_eq_true rfl) (by decide) ?_)
 unfold startA
 repeat' (first|refine st_seq_reg rfl (by first|(simp only[go_sem];rfl)|rfl) (by first|(simp only[go_sem];rfl)|rfl) ?_|refine st_reg rfl (by first|(simp only[go_sem];rfl)|rfl) (by first|(simp only[go_sem];rfl)|rfl) ?_|refine st_op ?_|refine st_det rfl (by simp (disch:=omega) only[go_sem,wr_i64];rfl) ?_|refine st_loc rfl (by simp (disch:=omega) only[go_sem,wr_i64];rfl) ?_|refine st_heap rfl (by simp (disch:=omega) only[go_sem,wr_i64];rfl) ?_|refine st_store (by simp (disch:=omega) only[go_sem,wr_i64];rfl) ?_|refine st_condT rfl ?_|refine st_condF rfl ?_|(refine st_condS rfl ?_ ?_ <;> intro hg <;> (try simp only[dcT,dcF,bnT,bnF] at hg))|refine st_nil ?_|refine st_tN ?_|refine st_seq ?_|refine st_block ?_|refine st_skip ?_|refine st_exit ?_|refine st_ret ?_|refine st_tE ?_|refine st_tR ?_|refine st_bN ?_|refine st_bR ?_|refine st_bH ?_|refine st_bM rfl ?_)
 refine st_loopC (α:=Nat) tab mixed [] [] (by repeat (first|exact trivial|refine ⟨rfl,?_⟩)) [] [] (by repeat (first|exact trivial|refine ⟨rfl,?_⟩)) (fun i=>[(10,.int .i64 i),(5,.int .i64 (sumF F i))]) [(1,_),(8,_),(9,_)] (fun _=>[]) [] (fun i=>i≤l.length) (fun i=>l.length - i) (by decide) 0 (Nat.zero_le _) (by (try simp only[go_sem]);repeat' (first|exact trivial|refine And.intro ?_ ?_|rfl|(simp (disch:=omega) only[go_sem,if_yes,if_no,if_no];rfl)|(simp (disch:=omega) only[go_sem,if_yes,if_no,if_no]))) (by (try simp only[go_sem]);repeat' (first|exact trivial|refine And.intro ?_ ?_|rfl|(simp (disch:=omega) only[go_sem,if_yes,if_no,if_no];rfl)|(simp (disch:=omega) only[go_sem,if_yes,if_no,if_no]))) (by first|(simp only[go_sem];rfl)|rfl) (by intro n;simp only[go_sem];rfl) ?_
 intro i c i1 hc
 simp only[go_sem]
 have hs:=sumF_le hl hF i1
 have hf:=hF i
 repeat' (first|refine st_seq_reg rfl (by first|(simp only[go_sem];rfl)|rfl) (by first|(simp only[go_sem];rfl)|rfl) ?_|refine st_reg rfl (by first|(simp only[go_sem];rfl)|rfl) (by first|(simp only[go_sem];rfl)|rfl) ?_|refine st_op ?_|refine st_det rfl (by simp (disch:=omega) only[go_sem,wr_i64];rfl) ?_|refine st_loc rfl (by simp (disch:=omega) only[go_sem,wr_i64];rfl) ?_|refine st_heap rfl (by simp (disch:=omega) only[go_sem,wr_i64];rfl) ?_|refine st_store (by simp (disch:=omega) only[go_sem,wr_i64];rfl) ?_|(refine st_pureV (by first|(simp only[go_sem];rfl)|rfl) (by first|(simp (disch:=omega) only[go_sem];rfl)|rfl) rfl (hG i (by omega)) (by first|(simp only[go_sem];rfl)|rfl) (by intro n;first|(simp (disch:=omega) only[go_sem];rfl)|rfl) ?_;intro v n hv hn;subst hv)|refine st_condT rfl ?_|refine st_condF rfl ?_|(refine st_condS rfl ?_ ?_ <;> intro hg <;> (try simp only[dcT,dcF,bnT,bnF] at hg))|refine st_nil ?_|refine st_tN ?_|refine st_seq ?_|refine st_block ?_|refine st_skip ?_|refine st_exit ?_|refine st_ret ?_|refine st_tE ?_|refine st_tR ?_|refine st_bN ?_|refine st_bR ?_|refine st_bH ?_|refine st_bM rfl ?_)
 ·refine ⟨i+1,(by show i+1≤l.length;omega),by show l.length - (i+1) < l.length - i;omega,(by repeat' (first|exact trivial|refine And.intro ?_ ?_|rfl|(simp (disch:=omega) only[go_sem,if_yes,if_no,if_no];rfl)|(simp (disch:=omega) only[go_sem,if_yes,if_no,if_no]))),(by repeat' (first|exact trivial|refine And.intro ?_ ?_|rfl|(simp (disch:=omega) only[go_sem,if_yes,if_no,if_no];rfl)|(simp (disch:=omega) only[go_sem,if_yes,if_no,if_no]))),rfl,(by first|exact HOld.of _ (by omega)|exact HOld.put _ _ _ (by omega))⟩
 ·simp (disch:=omega) only[AEnd,Tryd.results31,aresK,fin,go_sem,implies_true,true_and,and_true,List.reverse_cons,List.reverse_nil]
  obtain rfl:i=l.length:=by omega
  rfl
theorem c29 (l:List Int) (g:FuncId) (cap:List AV) (F:Nat→Int) (hc:cap.all noL=true) (hl:l.length≤1000) (hF:∀ i,i < l.length→-10000000000≤F i∧F i≤10000000000)
  (hG:∀ i,i < l.length→Pure Tryd.prog g ([.int .i64 (i:Nat),.int .i64 (l.getD i 0)] ++ cap) (fun v=>v=.int .i64 (F i))) :
  Pure Tryd.prog 29 [.lst 1 (l.map iv),.fn (.func g) [] cap] (fun v=>v=.int .i64 (sumF F l.length)):=by
 intro h
 refine ACalls.forget (ACalls.of tab mixed Tryd.call29 Tryd.func29 rfl (fi:=⟨23,[],[],none,[]⟩) rfl rfl (Nat.le_of_ble_eq_true rfl) (by decide) ?_)
 unfold startA
 repeat' (first|refine st_seq_reg rfl (by first|(simp only[go_sem];rfl)|rfl) (by first|(simp only[go_sem];rfl)|rfl) ?_|refine st_reg rfl (by first|(simp only[go_sem];rfl)|rfl) (by first|(simp only[go_sem];rfl)|rfl) ?_|refine st_op ?_|refine st_det rfl (by simp (disch:=omega) only[go_sem,wr_i64];rfl) ?_|refine st_condT rfl ?_|refine st_condF rfl ?_|(refine st_condS rfl ?_ ?_ <;> intro hg <;> (try simp only[dcT,dcF,bnT,bnF] at hg))|refine st_nil ?_|refine st_tN ?_|refine st_seq ?_|refine st_block ?_|refine st_skip ?_|refine st_exit ?_|refine st_ret ?_|refine st_tE ?_|refine st_tR ?_|refine st_bN ?_|refine st_bR ?_|refine st_bH ?_|refine st_bM rfl ?_)
 refine st_loopC (α:=Nat) tab mixed [] [] (by repeat (first|exact trivial|refine ⟨rfl,?_⟩)) [] [] (by repeat (first|exact trivial|refine ⟨rfl,?_⟩)) (fun i=>[(10,.int .i64 i),(5,.int .i64 (sumF F i))]) [(1,_),(8,_),(9,_)] (fun _=>[]) [] (fun i=>i≤l.length) (fun i=>l.length - i) (by decide) 0 (Nat.zero_le _) (by (try simp only[go_sem]);repeat' (first|exact trivial|refine And.intro ?_ ?_|rfl|(simp (disch:=omega) only[go_sem,if_yes,if_no,if_no];rfl)|(simp (disch:=omega) only[go_sem,if_yes,if_no,if_no]))) (by (try simp only[go_sem]);repeat' (first|exact trivial|refine And.intro ?_ ?_|rfl|(simp (disch:=omega) only[go_sem,if_yes,if_no,if_no];rfl)|(simp (disch:=omega) only[go_sem,if_yes,if_no,if_no]))) (by first|(simp only[go_sem];rfl)|rfl) (by intro n;simp only[go_sem];rfl) ?_
 intro i c i1 hc
 simp only[go_sem]
 have hs:=sumF_le hl hF i1
 have hf:=hF i
 repeat' (first|refine st_seq_reg rfl (by first|(simp only[go_sem];rfl)|rfl) (by first|(simp only[go_sem];rfl)|rfl) ?_|refine st_reg rfl (by first|(simp only[go_sem];rfl)|rfl) (by first|(simp only[go_sem];rfl)|rfl) ?_|refine st_op ?_|refine st_det rfl (by simp (disch:=omega) only[go_sem,wr_i64];rfl) ?_|(refine st_pureV (by first|(simp only[go_sem];rfl)|rfl) (by first|(simp (disch:=omega) only[go_sem];rfl)|rfl) rfl (hG i (by omega)) (by first|(simp only[go_sem];rfl)|rfl) (by intro n;first|(simp (disch:=omega) only[go_sem];rfl)|rfl) ?_;intro v n hv hn;subst hv)|refine st_condT rfl ?_|refine st_condF rfl ?_|(refine st_condS rfl ?_ ?_ <;> intro hg <;> (try simp only[dcT,dcF,bnT,bnF] at hg))|refine st_nil ?_|refine st_tN ?_|refine st_seq ?_|refine st_block ?_|refine st_skip ?_|refine st_exit ?_|refine st_ret ?_|refine st_tE ?_|refine st_tR ?_|refine st_bN ?_|refine st_bR ?_|refine st_bH ?_|refine st_bM rfl ?_)
 ·refine ⟨i+1,(by show i+1≤l.length;omega),by show l.length - (i+1) < l.length - i;omega,(by repeat' (first|exact trivial|refine And.intro ?_ ?_|rfl|(simp (disch:=omega) only[go_sem,if_yes,if_no,if_no];rfl)|(simp (disch:=omega) only[go_sem,if_yes,if_no,if_no]))),(by repeat' (first|exact trivial|refine And.intro ?_ ?_|rfl|(simp (disch:=omega) only[go_sem,if_yes,if_no,if_no];rfl)|(simp (disch:=omega) only[go_sem,if_yes,if_no,if_no]))),rfl,(by first|exact HOld.of _ (by omega)|exact HOld.put _ _ _ (by omega))⟩
 ·simp (disch:=omega) only[AEnd,Tryd.results29,aresK,fin,go_sem,implies_true,true_and,and_true,List.reverse_cons,List.reverse_nil]
  obtain rfl:i=l.length:=by omega
  rfl
def payerB (l:Lg) (k:Nat) (s:Int):Bool:=(List.range l.bs.length).any fun i=>hasB s i && payB (fd l.fs k) (bl l.bs i)
theorem all_step {p:Nat→Bool} {i:Nat} (h:∀ j,j < i→p j=false) (hi:p i=false):∀ j,j < i+1→p j=false:=fun j hj=>by
 by_cases e:j=i
 ·rw [e];exact hi
 ·exact h j (by omega)
theorem c24o {l:Lg} (hl:LgOk l) {k i:Nat} (hk:k < l.fs.length) (hi:i < l.bs.length):Pure Tryd.prog 24 [.agg (fd l.fs k).row,.agg (bl l.bs i).row] (fun v=>v=.bool (payB (fd l.fs k) (bl l.bs i))) :=
 c24 _ _ (by have:=(hl.f _ (fd_mem hk)).many;omega) (fun u hu=>((hl.f _ (fd_mem hk)).uses u hu).1) (hl.b _ (bl_mem hi)).use.1
theorem c25 (l:Lg) (k:Nat) (s:Int) (hl:LgOk l) (hk:k < l.fs.length):Pure Tryd.prog 25 [l.av,.int .i64 (k:Nat),.int .i64 s] (fun v=>v=.bool (payerB l k s)):=by
 have hb:=hl.bn;have hfn:=hl.fn
 intro h
 refine ACalls.forget (ACalls.of tab mixed Tryd.call25 Tryd.func25 rfl (fi:=⟨30,[8],[3],none,[(4,[0,0,3,7,15,31,15,127,255,15,1023,2047],[(0,false),(1,false),(2,false),(3,false),(4,false),(5,true),(6,false),(7,false),(8,true),(9,true),(10,false),(11,false)])]⟩) rfl rfl (Nat.le_of_ble_eq_true rfl) (by decide) ?_)
 unfold startA
 simp only[go_sem]
 repeat' (first|refine st_seq_reg rfl (by first|(simp only[go_sem];rfl)|rfl) (by first|(simp only[go_sem];rfl)|rfl) ?_|refine st_reg rfl (by first|(simp only[go_sem];rfl)|rfl) (by first|(simp only[go_sem];rfl)|rfl) ?_|refine st_seq_draw rfl (by first|(simp only[go_sem];rfl)|rfl) (by first|(simp only[go_sem];rfl)|rfl) ?_|refine st_draw rfl (by first|(simp only[go_sem];rfl)|rfl) (by first|(simp only[go_sem];rfl)|rfl) ?_|refine st_op ?_|refine st_det rfl (by simp (disch:=omega) only[go_sem,wr_i64];rfl) ?_|refine st_dop rfl ?_|refine st_loc rfl (by simp (disch:=omega) only[go_sem,wr_i64];rfl) ?_|refine st_heap rfl (by simp (disch:=omega) only[go_sem,wr_i64];rfl) ?_|refine st_store (by simp (disch:=omega) only[go_sem,wr_i64];rfl) ?_|refine st_gT rfl rfl rfl ?_|refine st_gF rfl rfl rfl ?_|refine st_dgT rfl rfl rfl rfl ?_|refine st_dgF rfl rfl rfl ?_|(refine st_gS rfl rfl ?_ ?_ <;> intro hg <;> (try simp only[dcT,dcF,bnT,bnF] at hg))|(refine st_dgS rfl rfl ?_ ?_ <;> intro hg <;> (try simp only[dcT,dcF,bnT,bnF] at hg))|refine st_condT rfl ?_|refine st_condF rfl ?_|(refine st_condS rfl ?_ ?_ <;> intro hg <;> (try simp only[dcT,dcF,bnT,bnF] at hg))|refine st_nil ?_|refine st_dnil ?_|refine st_tN ?_|refine st_seq ?_|refine st_block ?_|refine st_skip ?_|refine st_exit ?_|refine st_ret ?_|refine st_tE ?_|refine st_tR ?_|refine st_bN ?_|refine st_bR ?_|refine st_bH ?_|refine st_bM rfl ?_)
 refine st_loopC (α:=Nat) tab mixed [] [] (by repeat (first|exact trivial|refine ⟨rfl,?_⟩)) [] [] (by repeat (first|exact trivial|refine ⟨rfl,?_⟩)) (fun i=>[(12,.int .i64 i)]) [(1,_),(2,_),(3,_),(10,_),(11,_)] (fun _=>[]) [] (fun i=>i≤l.bs.length∧∀ j,j < i→(hasB s j && payB (fd l.fs k) (bl l.bs j))=false) (fun i=>l.bs.length - i) (by decide) 0 ⟨Nat.zero_le _,fun j hj=>absurd hj (Nat.not_lt_zero _)⟩ (by (try simp only[go_sem]);repeat' (first|exact trivial|refine And.intro ?_ ?_|rfl|(simp (disch:=omega) only[go_sem,if_yes,if_no,if_no];rfl)|(simp (disch:=omega) only[go_sem,if_yes,if_no,if_no]))) (by (try simp only[go_sem]);repeat' (first|exact trivial|refine And.intro ?_ ?_|rfl|(simp (disch:=omega) only[go_sem,if_yes,if_no,if_no];rfl)|(simp (disch:=omega) only[go_sem,if_yes,if_no,if_no]))) (by first|(simp only[go_sem];rfl)|rfl) (by intro n;simp only[go_sem];rfl) ?_
 rintro i c ⟨i1,i2⟩ hc
 simp only[go_sem]
 have hp:=fun (hi:i < l.bs.length)=>c24o hl hk hi
 repeat' (first|refine st_seq_reg rfl (by first|(simp only[go_sem,Lm];rfl)|rfl) (by first|(simp only[go_sem,Lm];rfl)|rfl) ?_|refine st_reg rfl (by first|(simp only[go_sem,Lm];rfl)|rfl) (by first|(simp only[go_sem,Lm];rfl)|rfl) ?_|refine st_seq_draw rfl (by first|(simp only[go_sem,Lm];rfl)|rfl) (by first|(simp only[go_sem,Lm];rfl)|rfl) ?_|refine st_draw rfl (by first|(simp only[go_sem,Lm];rfl)|rfl) (by first|(simp only[go_sem,Lm];rfl)|rfl) ?_|refine st_op ?_|refine st_det rfl (by simp (disch:=omega) only[go_sem,wr_i64,Lm];rfl) ?_|refine st_dop rfl ?_|refine st_loc rfl (by simp (disch:=omega) only[go_sem,wr_i64,Lm];rfl) ?_|refine st_heap rfl (by simp (disch:=omega) only[go_sem,wr_i64,Lm];rfl) ?_|refine st_store (by simp (disch:=omega) only[go_sem,wr_i64,Lm];rfl) ?_|(refine st_pureE (by first|(simp (disch:=omega) only[go_sem,Lm];rfl)|rfl) rfl (c28 s (i:Nat) (by omega)) (by first|(simp only[go_sem,Lm];rfl)|rfl) (by intro n;first|(simp (disch:=omega) only[go_sem];rfl)|rfl) ?_;intro n hn)|(refine st_pureE (by first|(simp (disch:=omega) only[go_sem,Lm];rfl)|rfl) rfl (hp (by omega)) (by first|(simp only[go_sem,Lm];rfl)|rfl) (by intro n;first|(simp (disch:=omega) only[go_sem];rfl)|rfl) ?_;intro n hn)|refine st_gT rfl rfl rfl ?_|refine st_gF rfl rfl rfl ?_|refine st_dgT rfl rfl rfl rfl ?_|refine st_dgF rfl rfl rfl ?_|(refine st_gS rfl rfl ?_ ?_ <;> intro hg <;> (try simp only[dcT,dcF,bnT,bnF] at hg))|(refine st_dgS rfl rfl ?_ ?_ <;> intro hg <;> (try simp only[dcT,dcF,bnT,bnF] at hg))|refine st_condT rfl ?_|refine st_condF rfl ?_|(refine st_condS rfl ?_ ?_ <;> intro hg <;> (try simp only[dcT,dcF,bnT,bnF] at hg))|refine st_nil ?_|refine st_dnil ?_|refine st_tN ?_|refine st_seq ?_|refine st_block ?_|refine st_skip ?_|refine st_exit ?_|refine st_ret ?_|refine st_tE ?_|refine st_tR ?_|refine st_bN ?_|refine st_bR ?_|refine st_bH ?_|refine st_bM rfl ?_)
 all_goals try (exfalso;omega)
 ·have e:payerB l k s=true:=List.any_eq_true.2 ⟨i,List.mem_range.2 (by omega),by simp [*]⟩
  simp (disch:=omega) only[AEnd,Tryd.results25,aresK,fin,go_sem,implies_true,true_and,and_true,List.reverse_cons,List.reverse_nil]
  rw [e]
 ·refine ⟨i+1,⟨by show i+1≤l.bs.length;omega,all_step i2 (by simp [*])⟩,by show l.bs.length - (i+1) < l.bs.length - i;omega,(by repeat' (first|exact trivial|refine And.intro ?_ ?_|rfl|(simp (disch:=omega) only[go_sem,if_yes,if_no,if_no];rfl)|(simp (disch:=omega) only[go_sem,if_yes,if_no,if_no]))),(by repeat' (first|exact trivial|refine And.intro ?_ ?_|rfl|(simp (disch:=omega) only[go_sem,if_yes,if_no,if_no];rfl)|(simp (disch:=omega) only[go_sem,if_yes,if_no,if_no]))),rfl,(by first|exact HOld.of _ (by omega)|exact HOld.put _ _ _ (by omega))⟩
 ·refine ⟨i+1,⟨by show i+1≤l.bs.length;omega,all_step i2 (by simp [*])⟩,by show l.bs.length - (i+1) < l.bs.length - i;omega,(by repeat' (first|exact trivial|refine And.intro ?_ ?_|rfl|(simp (disch:=omega) only[go_sem,if_yes,if_no,if_no];rfl)|(simp (disch:=omega) only[go_sem,if_yes,if_no,if_no]))),(by repeat' (first|exact trivial|refine And.intro ?_ ?_|rfl|(simp (disch:=omega) only[go_sem,if_yes,if_no,if_no];rfl)|(simp (disch:=omega) only[go_sem,if_yes,if_no,if_no]))),rfl,(by first|exact HOld.of _ (by omega)|exact HOld.put _ _ _ (by omega))⟩
 ·obtain rfl:i=l.bs.length:=by omega
  have e:payerB l k s=false:=List.any_eq_false.2 fun j hj=>by rw [i2 j (List.mem_range.1 hj)];decide
  simp (disch:=omega) only[AEnd,Tryd.results25,aresK,fin,go_sem,implies_true,true_and,and_true,List.reverse_cons,List.reverse_nil]
  rw [e]
def dueF (l:Lg) (s:Int) (i:Nat):Int:=if hasB s (i:Nat)=true then (bl l.bs i).amt else 0
def dueB (l:Lg) (s:Int):Int:=sumF (dueF l s) l.bs.length
theorem c51 (l:Lg) (s:Int) (i:Nat):Pure Tryd.prog 51 ([.int .i64 (i:Nat),.agg (bl l.bs i).row] ++ [.iptr [.int .i64 s] 0]) (fun v=>v=.int .i64 (dueF l s i)):=by
 intro h
 refine ACalls.forget (ACalls.of tab mixed Tryd.call51 Tryd.func51 rfl (fi:=⟨11,[],[4],none,[]⟩) rfl rfl (Nat.le_of_ble_eq_true rfl) (by decide) ?_)
 unfold startA
 simp only[go_sem]
 repeat' (first|refine st_seq_reg rfl (by first|(simp only[go_sem];rfl)|rfl) (by first|(simp only[go_sem];rfl)|rfl) ?_|refine st_reg rfl (by first|(simp only[go_sem];rfl)|rfl) (by first|(simp only[go_sem];rfl)|rfl) ?_|refine st_op ?_|refine st_det rfl (by simp (disch:=omega) only[go_sem,wr_i64];rfl) ?_|refine st_loc rfl (by simp (disch:=omega) only[go_sem,wr_i64];rfl) ?_|refine st_heap rfl (by simp (disch:=omega) only[go_sem,wr_i64];rfl) ?_|(refine st_pureE (by first|(simp (disch:=omega) only[go_sem];rfl)|rfl) rfl (c28 s (i:Nat) (by omega)) (by first|(simp only[go_sem];rfl)|rfl) (by intro n;first|(simp (disch:=omega) only[go_sem];rfl)|rfl) ?_;intro n hn)|refine st_condT rfl ?_|refine st_condF rfl ?_|(refine st_condS rfl ?_ ?_ <;> intro hg <;> (try simp only[dcT,dcF,bnT,bnF] at hg))|refine st_nil ?_|refine st_tN ?_|refine st_seq ?_|refine st_skip ?_|refine st_ret ?_|refine st_tE ?_|refine st_tR ?_)
 all_goals
  simp (disch:=omega) only[AEnd,Tryd.results51,aresK,fin,go_sem,implies_true,true_and,and_true,List.reverse_cons,List.reverse_nil]
  simp [dueF, *]
theorem dueF_bd {l:Lg} (hl:LgOk l) (s:Int) (i:Nat) (hi:i < l.bs.length):0≤dueF l s i∧dueF l s i≤1000000000:=by
 have:=(hl.b _ (bl_mem hi)).amt
 unfold dueF
 split <;> omega
theorem c42 (l:Lg) (s:Int) (hl:LgOk l):Pure Tryd.prog 42 [l.av,.int .i64 s] (fun v=>v=.int .i64 (dueB l s)):=by
 have hb:=hl.bn
 have ht:=c31 l.bs 51 [.iptr [.int .i64 s] 0] (dueF l s) rfl (by omega) (fun i hi=>by have:=dueF_bd hl s i hi;omega) (fun i _=>c51 l s i)
 intro h
 refine ACalls.forget (ACalls.of tab mixed Tryd.call42 Tryd.func42 rfl (fi:=⟨9,[],[2,3],none,[]⟩) rfl rfl (Nat.le_of_ble_eq_true rfl) (by decide) ?_)
 unfold startA
 simp only[go_sem]
 repeat' (first|refine st_seq_reg rfl (by first|(simp only[go_sem];rfl)|rfl) (by first|(simp only[go_sem];rfl)|rfl) ?_|refine st_reg rfl (by first|(simp only[go_sem];rfl)|rfl) (by first|(simp only[go_sem];rfl)|rfl) ?_|refine st_op ?_|refine st_det rfl (by simp (disch:=omega) only[go_sem,wr_i64];rfl) ?_|refine st_loc rfl (by simp (disch:=omega) only[go_sem,wr_i64];rfl) ?_|refine st_heap rfl (by simp (disch:=omega) only[go_sem,wr_i64];rfl) ?_|(refine st_pureE (by first|(simp (disch:=omega) only[go_sem];rfl)|rfl) rfl (ht) (by first|(simp only[go_sem];rfl)|rfl) (by intro n;first|(simp (disch:=omega) only[go_sem];rfl)|rfl) ?_;intro n hn)|refine st_nil ?_|refine st_tN ?_|refine st_seq ?_|refine st_skip ?_|refine st_ret ?_|refine st_tE ?_|refine st_tR ?_)
 simp (disch:=omega) only[AEnd,Tryd.results42,aresK,fin,go_sem,implies_true,true_and,and_true,List.reverse_cons,List.reverse_nil]
 rfl
def givF (l:Lg) (rs:List Int) (s:Int) (i:Nat):Int:=if payerB l i s=true then rs.getD i 0 else 0
def slackB (l:Lg) (rs:List Int) (s:Int):Int:=sumF (givF l rs s) l.fs.length - dueB l s
theorem c41 (l:Lg) (rs:List Int) (s:Int) (hl:LgOk l) (hr:rs.length=8) (i:Nat) (hi:i < l.fs.length):Pure Tryd.prog 41 ([.int .i64 (i:Nat),.agg (fd l.fs i).row] ++ [.iptr [.lst 4 (l.fs.map Fd.row),.lst 3 (l.bs.map Bl.row)] 0,.iptr [.int .i64 s] 0,.iptr (rs.map iA) 0]) (fun v=>v=.int .i64 (givF l rs s i)):=by
 have hfn:=hl.fn
 intro h
 refine ACalls.forget (ACalls.of tab mixed Tryd.call41 Tryd.func41 rfl (fi:=⟨15,[],[6],none,[]⟩) rfl rfl (Nat.le_of_ble_eq_true rfl) (by decide) ?_)
 unfold startA
 simp only[go_sem]
 repeat' (first|refine st_seq_reg rfl (by first|(simp only[go_sem,hr];rfl)|rfl) (by first|(simp only[go_sem,hr];rfl)|rfl) ?_|refine st_reg rfl (by first|(simp only[go_sem,hr];rfl)|rfl) (by first|(simp only[go_sem,hr];rfl)|rfl) ?_|refine st_op ?_|refine st_det rfl (by simp (disch:=omega) only[go_sem,wr_i64,hr];rfl) ?_|refine st_loc rfl (by simp (disch:=omega) only[go_sem,wr_i64,hr];rfl) ?_|refine st_heap rfl (by simp (disch:=omega) only[go_sem,wr_i64,hr];rfl) ?_|(refine st_pureE (by first|(simp (disch:=omega) only[go_sem,hr];rfl)|rfl) rfl (c25 l i s hl hi) (by first|(simp only[go_sem,hr];rfl)|rfl) (by intro n;first|(simp (disch:=omega) only[go_sem];rfl)|rfl) ?_;intro n hn)|refine st_condT rfl ?_|refine st_condF rfl ?_|(refine st_condS rfl ?_ ?_ <;> intro hg <;> (try simp only[dcT,dcF,bnT,bnF] at hg))|refine st_nil ?_|refine st_tN ?_|refine st_seq ?_|refine st_skip ?_|refine st_ret ?_|refine st_tE ?_|refine st_tR ?_)
 all_goals
  simp (disch:=omega) only[AEnd,Tryd.results41,aresK,fin,go_sem,implies_true,true_and,and_true,List.reverse_cons,List.reverse_nil]
  simp [givF, *]
def RsOk (rs:List Int):Prop:=rs.length=8∧∀ i,i < 8→0≤rs.getD i 0∧rs.getD i 0≤1000000000
theorem givF_bd {l:Lg} {rs:List Int} (hl:LgOk l) (hr:RsOk rs) (s:Int) (i:Nat) (hi:i < l.fs.length):0≤givF l rs s i∧givF l rs s i≤1000000000:=by
 have hfn:=hl.fn
 have:=hr.2 i (by omega)
 unfold givF
 split <;> omega
theorem c26 (l:Lg) (rs:List Int) (s:Int) (hl:LgOk l) (hr:RsOk rs):Pure Tryd.prog 26 [ravN rs,l.av,.int .i64 s] (fun v=>v=.int .i64 (slackB l rs s)):=by
 have hfn:=hl.fn;have hbn:=hl.bn
 have h8:=hr.1
 have b1:∀ i,i < l.fs.length→-10000000000≤givF l rs s i∧givF l rs s i≤10000000000:=fun i hi=>by have:=givF_bd hl hr s i hi;omega
 have b2:∀ i,i < l.bs.length→-10000000000≤dueF l s i∧dueF l s i≤10000000000:=fun i hi=>by have:=dueF_bd hl s i hi;omega
 have ht:=c33 l.fs 41 [.iptr [.lst 4 (l.fs.map Fd.row),.lst 3 (l.bs.map Bl.row)] 0,.iptr [.int .i64 s] 0,.iptr (rs.map iA) 0] (givF l rs s) rfl (by omega) b1 (fun i hi=>c41 l rs s hl hr.1 i hi)
 have hd:=c42 l s hl
 have q1:=sumF_le (by omega) b1 (Nat.le_refl _)
 have q2:-10000000000000≤dueB l s∧dueB l s≤10000000000000:=sumF_le (by omega) b2 (Nat.le_refl _)
 intro h
 refine ACalls.forget (ACalls.of tab mixed Tryd.call26 Tryd.func26 rfl (fi:=⟨15,[],[3,4,5],none,[(1,[0,1,0,7,0,0,63,127,255],[(0,false),(1,true),(2,false),(4,true),(5,true),(3,false),(6,false),(7,false),(8,false)])]⟩) rfl rfl (Nat.le_of_ble_eq_true rfl) (by decide) ?_)
 unfold startA
 simp only[go_sem]
 repeat' (first|refine st_seq_reg rfl (by first|(simp only[go_sem,h8];rfl)|rfl) (by first|(simp only[go_sem,h8];rfl)|rfl) ?_|refine st_reg rfl (by first|(simp only[go_sem,h8];rfl)|rfl) (by first|(simp only[go_sem,h8];rfl)|rfl) ?_|refine st_seq_draw rfl (by first|(simp only[go_sem,h8];rfl)|rfl) (by first|(simp only[go_sem,h8];rfl)|rfl) ?_|refine st_draw rfl (by first|(simp only[go_sem,h8];rfl)|rfl) (by first|(simp only[go_sem,h8];rfl)|rfl) ?_|refine st_op ?_|refine st_det rfl (by simp (disch:=omega) only[go_sem,wr_i64,h8];rfl) ?_|refine st_dop rfl ?_|refine st_loc rfl (by simp (disch:=omega) only[go_sem,wr_i64,h8];rfl) ?_|refine st_heap rfl (by simp (disch:=omega) only[go_sem,wr_i64,h8];rfl) ?_|(refine st_pureE (by first|(simp (disch:=omega) only[go_sem,h8];rfl)|rfl) rfl (ht) (by first|(simp only[go_sem,h8];rfl)|rfl) (by intro n;first|(simp (disch:=omega) only[go_sem];rfl)|rfl) ?_;intro n hn)|(refine st_pureE (by first|(simp (disch:=omega) only[go_sem,h8];rfl)|rfl) rfl (hd) (by first|(simp only[go_sem,h8];rfl)|rfl) (by intro n;first|(simp (disch:=omega) only[go_sem];rfl)|rfl) ?_;intro n hn)|refine st_nil ?_|refine st_dnil ?_|refine st_tN ?_|refine st_seq ?_|refine st_skip ?_|refine st_ret ?_|refine st_tE ?_|refine st_tR ?_)
 simp (disch:=omega) only[AEnd,Tryd.results26,aresK,fin,go_sem,implies_true,true_and,and_true,List.reverse_cons,List.reverse_nil]
 rfl
end Go.Proofs.YtefogfgddofdmaaDoor

namespace Go.Proofs.YtefogfgddofdmaaDoor
open Go.Av
attribute [local irreducible] thenA blockA awp awpOps awpD awp1
attribute [local go_sem_proc] Nat.reduceAdd Nat.reduceMul Nat.reduceEqDiff Nat.reduceBEq Nat.reduceLeDiff
attribute [local go_sem_proc ↓] reduceIte
attribute [local go_sem] if_yes if_no
set_option maxHeartbeats 8000000
set_option maxRecDepth 20000
def wkN (g:Nat→List Int) (a:Nat):Nat→List Int
 | 0=>[]
 | k+1=>wkN g a k ++ g (a+k)
def walkL (B:Nat):Nat→Int→Nat→List Int
 | 0,s,_=>[s]
 | m+1,s,next=>wkN (fun i=>walkL B m (wthB s (i:Nat)) (i+1)) next (B - next)
def ycell (l:Nat):AV:=.iptr [.fn (.yield l) [] []] 0
@[go_sem] theorem ycell_eq (l:Nat):ycell l=.iptr [.fn (.yield l) [] []] 0:=rfl
def wcap (l B:Nat):List AV:=[.iptr [.fn (.yield l) [] []] 0,.iptr [.int .i64 (B:Nat)] 0]
@[go_sem] theorem knot_s (l B n:Nat):knot (.func 49) (wcap l B) (n+1)=.iptr [.fn (.func 49) [] [.iptr [.fn (.yield l) [] []] 0,.iptr [.int .i64 (B:Nat)] 0,knot (.func 49) (wcap l B) n]] 0:=rfl
theorem c39 (a b:Int):Pure Tryd.prog 39 [.int .i64 a,.int .i64 b] (fun v=>v=.fn (.func 48) [] [.iptr [.int .i64 a] 0,.iptr [.int .i64 b] 0]):=by
 intro h
 refine ACalls.forget (ACalls.of tab mixed Tryd.call39 Tryd.func39 rfl (fi:=⟨6,[],[2,3],none,[]⟩) rfl rfl (Nat.le_of_ble_eq_true rfl) (by decide) ?_)
 unfold startA
 repeat' (first|refine st_seq_reg rfl (by first|(simp only[go_sem];rfl)|rfl) (by first|(simp only[go_sem];rfl)|rfl) ?_|refine st_reg rfl (by first|(simp only[go_sem];rfl)|rfl) (by first|(simp only[go_sem];rfl)|rfl) ?_|refine st_op ?_|refine st_det rfl (by simp (disch:=omega) only[go_sem,wr_i64];rfl) ?_|refine st_loc rfl (by simp (disch:=omega) only[go_sem,wr_i64];rfl) ?_|refine st_heap rfl (by simp (disch:=omega) only[go_sem,wr_i64];rfl) ?_|refine st_nil ?_|refine st_tN ?_|refine st_seq ?_|refine st_skip ?_|refine st_ret ?_|refine st_tE ?_|refine st_tR ?_)
 simp (disch:=omega) only[AEnd,Tryd.results39,aresK,fin,go_sem,implies_true,true_and,and_true,List.reverse_cons,List.reverse_nil]
theorem fnd_none {p:Int→Bool} {a b:List Int} (h:a.find? p=none) (k:b.find? p=none):(a ++ b).find? p=none:=by rw [List.find?_append,h,k];rfl
theorem fnd_some {p:Int→Bool} {a b:List Int} {x:Int} (h:a.find? p=none) (k:b.find? p=some x):(a ++ b).find? p=some x:=by rw [List.find?_append,h,k];rfl
theorem wkN_pre {g:Nat→List Int} {a:Nat} {p:Int→Bool} {x:Int} {k:Nat} (h:(wkN g a k).find? p=some x):∀ {j:Nat},k≤j→(wkN g a j).find? p=some x
 | 0,hj=>by
  obtain rfl:k=0:=by omega
  exact h
 | j+1,hj=>by
  by_cases e:k=j+1
  ·rw [← e];exact h
  ·show (wkN g a j ++ g (a+j)).find? p=some x
   rw [List.find?_append,wkN_pre h (by omega)];rfl
theorem addc2 (a b:Nat):((a+(b+1):Nat):Int)=((a+b:Nat):Int)+1:=by omega
theorem c49 (l B:Nat) (hB:B≤8) (I:AH→Prop) (D:Int→AH→Prop) (bad:Int→Bool) (hI:∀ g n,I g→g.clk≤n→I (g.tick n)) (hD:∀ x g n,D x g→g.clk≤n→D x (g.tick n))
  (hy:∀ s g,I g→AYields Tryd.prog l [.int .i64 s] g (fun v h'=>(bad s=false∧v=.bool true∧I h') ∨ (bad s=true∧v=.bool false∧D s h'))) :
  ∀ (m d:Nat),m≤d→m≤8→∀ (s:Int) (next:Nat) (nx mo:Int) (h:AH),nx=(next:Nat)→mo=(m:Nat)→next≤B→I h →
  ACalls Tryd.prog 49 [.int .i64 s,.int .i64 nx,.int .i64 mo,.iptr [.fn (.yield l) [] []] 0,.iptr [.int .i64 (B:Nat)] 0,knot (.func 49) (wcap l B) d] h (fun v h'=>((walkL B m s next).find? bad=none∧v=.bool true∧I h') ∨ ∃ x,(walkL B m s next).find? bad=some x∧v=.bool false∧D x h'):=by
 intro m
 induction m with
 | zero =>
  rintro d hmd hm8 s next nx mo h rfl rfl hnb hi
  refine ACalls.of tab mixed Tryd.call49 Tryd.func49 rfl (fi:=⟨32,[],[],none,[(6,[0,0,0,6,0,16,0,64,255,511],[(0,true),(1,false),(2,false),(4,false),(5,false),(6,false),(7,false),(3,false),(8,false),(9,false)])]⟩) rfl rfl (Nat.le_of_ble_eq_true rfl) (by decide) ?_
  unfold startA
  repeat' (first|refine st_seq_reg rfl (by first|(simp only[go_sem];rfl)|rfl) (by first|(simp only[go_sem];rfl)|rfl) ?_|refine st_reg rfl (by first|(simp only[go_sem];rfl)|rfl) (by first|(simp only[go_sem];rfl)|rfl) ?_|refine st_seq_draw rfl (by first|(simp only[go_sem];rfl)|rfl) (by first|(simp only[go_sem];rfl)|rfl) ?_|refine st_draw rfl (by first|(simp only[go_sem];rfl)|rfl) (by first|(simp only[go_sem];rfl)|rfl) ?_|refine st_op ?_|refine st_det rfl (by simp (disch:=omega) only[go_sem,wr_i64];rfl) ?_|refine st_dop rfl ?_|(refine st_yield rfl (by first|(simp (disch:=omega) only[go_sem];rfl)|(simp (disch:=omega) only[go_sem])) rfl (hy s _ (hI h _ hi (by omega))) ?_;rintro v h' (⟨hb,rfl,hi2⟩|⟨hb,rfl,hd2⟩))|refine st_condT rfl ?_|refine st_condF rfl ?_|(refine st_condS rfl ?_ ?_ <;> intro hg <;> (try simp only[dcT,dcF,bnT,bnF] at hg))|refine st_nil ?_|refine st_dnil ?_|refine st_tN ?_|refine st_seq ?_|refine st_block ?_|refine st_skip ?_|refine st_exit ?_|refine st_ret ?_|refine st_tE ?_|refine st_tR ?_|refine st_bN ?_|refine st_bR ?_|refine st_bH ?_|refine st_bM rfl ?_)
  all_goals try (exfalso;omega)
  ·simp (disch:=omega) only[AEnd,Tryd.results49,aresK,fin,go_sem,implies_true,true_and,and_true,List.reverse_cons,List.reverse_nil]
   exact .inl ⟨by simp [walkL,hb],hi2⟩
  ·simp (disch:=omega) only[AEnd,Tryd.results49,aresK,fin,go_sem,implies_true,true_and,and_true,List.reverse_cons,List.reverse_nil]
   exact .inr ⟨s,by simp [walkL,hb],hd2⟩
 | succ m ih =>
  rintro d hmd hm8 s next nx mo h rfl rfl hnb hi
  obtain ⟨d,rfl⟩:∃ d',d=d'+1:=⟨d - 1,by omega⟩
  refine ACalls.of tab mixed Tryd.call49 Tryd.func49 rfl (fi:=⟨32,[],[],none,[(6,[0,0,0,6,0,16,0,64,255,511],[(0,true),(1,false),(2,false),(4,false),(5,false),(6,false),(7,false),(3,false),(8,false),(9,false)])]⟩) rfl rfl (Nat.le_of_ble_eq_true rfl) (by decide) ?_
  unfold startA
  simp only[go_sem]
  repeat' (first|refine st_seq_reg rfl (by first|(simp only[go_sem];rfl)|rfl) (by first|(simp only[go_sem];rfl)|rfl) ?_|refine st_reg rfl (by first|(simp only[go_sem];rfl)|rfl) (by first|(simp only[go_sem];rfl)|rfl) ?_|refine st_seq_draw rfl (by first|(simp only[go_sem];rfl)|rfl) (by first|(simp only[go_sem];rfl)|rfl) ?_|refine st_draw rfl (by first|(simp only[go_sem];rfl)|rfl) (by first|(simp only[go_sem];rfl)|rfl) ?_|refine st_op ?_|refine st_det rfl (by simp (disch:=omega) only[go_sem,wr_i64];rfl) ?_|refine st_dop rfl ?_|refine st_condT rfl ?_|refine st_condF rfl ?_|(refine st_condS rfl ?_ ?_ <;> intro hg <;> (try simp only[dcT,dcF,bnT,bnF] at hg))|refine st_nil ?_|refine st_dnil ?_|refine st_tN ?_|refine st_seq ?_|refine st_block ?_|refine st_skip ?_|refine st_exit ?_|refine st_ret ?_|refine st_tE ?_|refine st_tR ?_|refine st_bN ?_|refine st_bR ?_|refine st_bH ?_|refine st_bM rfl ?_)
  all_goals try (exfalso;omega)
  refine st_loopH (α:=Nat × AH) tab mixed [] [] (by repeat (first|exact trivial|refine ⟨rfl,?_⟩)) [] [] (by repeat (first|exact trivial|refine ⟨rfl,?_⟩)) (fun a=>[(10,.int .i64 ((next+a.1:Nat):Int))]) [(0,_),(2,_),(3,_),(4,_),(5,_)] (fun _=>[]) [] (fun a=>a.2) (fun a=>next+a.1≤B∧(wkN (fun i=>walkL B m (wthB s (i:Nat)) (i+1)) next a.1).find? bad=none∧I a.2) (fun a=>B - (next+a.1)) (by decide) (0,h) ⟨hnb,rfl,hi⟩ (by (try simp only[go_sem]);repeat' (first|exact trivial|refine And.intro ?_ ?_|rfl|(simp (disch:=omega) only[go_sem,if_yes,if_no,if_no];rfl)|(simp (disch:=omega) only[go_sem,if_yes,if_no,if_no]))) (by (try simp only[go_sem]);repeat' (first|exact trivial|refine And.intro ?_ ?_|rfl|(simp (disch:=omega) only[go_sem,if_yes,if_no,if_no];rfl)|(simp (disch:=omega) only[go_sem,if_yes,if_no,if_no]))) (HOld.tick (by simp only[go_sem];omega)) ?_
  rintro ⟨k,g⟩ c ⟨i1,i2,i3⟩ hc
  dsimp only at i1 i2 i3 hc
  simp only[go_sem]
  repeat' (first|refine st_seq_reg rfl (by first|(simp only[go_sem];rfl)|rfl) (by first|(simp only[go_sem];rfl)|rfl) ?_|refine st_reg rfl (by first|(simp only[go_sem];rfl)|rfl) (by first|(simp only[go_sem];rfl)|rfl) ?_|refine st_seq_draw rfl (by first|(simp only[go_sem];rfl)|rfl) (by first|(simp only[go_sem];rfl)|rfl) ?_|refine st_draw rfl (by first|(simp only[go_sem];rfl)|rfl) (by first|(simp only[go_sem];rfl)|rfl) ?_|refine st_op ?_|refine st_det rfl (by simp (disch:=omega) only[go_sem,wr_i64];rfl) ?_|refine st_dop rfl ?_|(refine st_pureE (by first|(simp (disch:=omega) only[go_sem];rfl)|rfl) rfl (c50 s ((next+k:Nat):Int) (by omega)) (by first|(simp only[go_sem];rfl)|rfl) (by intro n;first|(simp (disch:=omega) only[go_sem];rfl)|rfl) ?_;intro n hn)|(refine st_call (args:=[.int .i64 (wthB s ((next+k:Nat):Int)),.int .i64 (((next+k:Nat):Int)+1),.int .i64 (((m+1:Nat):Int) - 1)]) rfl (by first|(simp (disch:=omega) only[go_sem,wr_i64];rfl)|(simp (disch:=omega) only[go_sem])) rfl (ih d (by omega) (by omega) (wthB s ((next+k:Nat):Int)) (next+k+1) _ _ _ (by omega) (by omega) (by omega) (hI g _ i3 (by omega))) ?_;rintro v h' (⟨hf,rfl,hi2⟩|⟨x,hf,rfl,hd2⟩))|refine st_condT rfl ?_|refine st_condF rfl ?_|(refine st_condS rfl ?_ ?_ <;> intro hg <;> (try simp only[dcT,dcF,bnT,bnF] at hg))|refine st_nil ?_|refine st_dnil ?_|refine st_tN ?_|refine st_seq ?_|refine st_block ?_|refine st_skip ?_|refine st_exit ?_|refine st_ret ?_|refine st_tE ?_|refine st_tR ?_|refine st_bN ?_|refine st_bR ?_|refine st_bH ?_|refine st_bM rfl ?_)
  ·refine ⟨(k+1,h'),⟨by show next+(k+1)≤B;omega,fnd_none i2 hf,hi2⟩,by show B - (next+(k+1)) < B - (next+k);omega,(by (try (try simp only[go_sem,addc2]));repeat' (first|exact trivial|refine And.intro ?_ ?_|rfl|(simp (disch:=omega) only[go_sem,if_yes,if_no,if_no];rfl)|(simp (disch:=omega) only[go_sem,if_yes,if_no,if_no]))),(by (try (try simp only[go_sem,addc2]));repeat' (first|exact trivial|refine And.intro ?_ ?_|rfl|(simp (disch:=omega) only[go_sem,if_yes,if_no,if_no];rfl)|(simp (disch:=omega) only[go_sem,if_yes,if_no,if_no]))),rfl,HOld.tick (Nat.le_succ _)⟩
  ·simp (disch:=omega) only[AEnd,Tryd.results49,aresK,fin,go_sem,implies_true,true_and,and_true,List.reverse_cons,List.reverse_nil]
   exact .inr ⟨x,wkN_pre (k:=k+1) (fnd_some i2 hf) (by omega),hD _ _ _ hd2 (Nat.le_succ _)⟩
  ·have e:k=B - next:=by omega
   subst e
   simp (disch:=omega) only[AEnd,Tryd.results49,aresK,fin,go_sem,implies_true,true_and,and_true,List.reverse_cons,List.reverse_nil]
   exact .inl ⟨i2,hI _ _ i3 (by omega)⟩
theorem c48 (l B m:Nat) (hB:B≤8) (hm:m≤8) (I:AH→Prop) (D:Int→AH→Prop) (bad:Int→Bool) (hI:∀ g n,I g→g.clk≤n→I (g.tick n)) (hD:∀ x g n,D x g→g.clk≤n→D x (g.tick n))
  (hy:∀ s g,I g→AYields Tryd.prog l [.int .i64 s] g (fun v h'=>(bad s=false∧v=.bool true∧I h') ∨ (bad s=true∧v=.bool false∧D s h'))) (h:AH) (h0:I h) (hP:∀ n b,h.clk≤n→h.clk≤b.1→I ((h.tick n).put b none)) :
  ACalls Tryd.prog 48 [.fn (.yield l) [] [],.iptr [.int .i64 (B:Nat)] 0,.iptr [.int .i64 (m:Nat)] 0] h (fun _ h'=>((walkL B m 0 0).find? bad=none∧I h') ∨ ∃ x,(walkL B m 0 0).find? bad=some x∧D x h'):=by
 refine ACalls.ofS tab Tryd.call48 Tryd.func48 rfl (fi:=⟨9,[],[3],none,[]⟩) rfl rfl (Nat.le_of_ble_eq_true rfl) ?_
 unfold startA
 refine asem_seq (fi:=⟨9,[],[3],none,[]⟩) tab mixed (by decide) ?_
 repeat' (first|refine st_seq_reg rfl (by first|(simp only[go_sem];rfl)|rfl) (by first|(simp only[go_sem];rfl)|rfl) ?_|refine st_reg rfl (by first|(simp only[go_sem];rfl)|rfl) (by first|(simp only[go_sem];rfl)|rfl) ?_|refine st_op ?_|refine st_det rfl (by simp (disch:=omega) only[go_sem,wr_i64];rfl) ?_|refine st_loc rfl (by simp (disch:=omega) only[go_sem,wr_i64];rfl) ?_|refine st_heap rfl (by simp (disch:=omega) only[go_sem,wr_i64];rfl) ?_|refine st_store (by simp (disch:=omega) only[go_sem,wr_i64];rfl) ?_|refine st_nil ?_|refine st_tN ?_|refine st_seq ?_|refine st_skip ?_|refine st_ret ?_|refine st_tE ?_|refine st_tR ?_)
 refine asem_seq (fi:=⟨9,[],[3],none,[]⟩) tab mixed (by decide) ?_
 repeat' (first|refine st_seq_reg rfl (by first|(simp only[go_sem];rfl)|rfl) (by first|(simp only[go_sem];rfl)|rfl) ?_|refine st_reg rfl (by first|(simp only[go_sem];rfl)|rfl) (by first|(simp only[go_sem];rfl)|rfl) ?_|refine st_op ?_|refine st_det rfl (by simp (disch:=omega) only[go_sem,wr_i64];rfl) ?_|refine st_loc rfl (by simp (disch:=omega) only[go_sem,wr_i64];rfl) ?_|refine st_heap rfl (by simp (disch:=omega) only[go_sem,wr_i64];rfl) ?_|refine st_store (by simp (disch:=omega) only[go_sem,wr_i64];rfl) ?_|refine st_nil ?_|refine st_tN ?_|refine st_seq ?_|refine st_skip ?_|refine st_ret ?_|refine st_tE ?_|refine st_tR ?_)
 refine asem_seq (fi:=⟨9,[],[3],none,[]⟩) tab mixed (by decide) ?_
 repeat' (first|refine st_seq_reg rfl (by first|(simp only[go_sem];rfl)|rfl) (by first|(simp only[go_sem];rfl)|rfl) ?_|refine st_reg rfl (by first|(simp only[go_sem];rfl)|rfl) (by first|(simp only[go_sem];rfl)|rfl) ?_|refine st_op ?_|refine st_det rfl (by simp (disch:=omega) only[go_sem,wr_i64];rfl) ?_|refine st_loc rfl (by simp (disch:=omega) only[go_sem,wr_i64];rfl) ?_|refine st_heap rfl (by simp (disch:=omega) only[go_sem,wr_i64];rfl) ?_|refine st_store (by simp (disch:=omega) only[go_sem,wr_i64];rfl) ?_|refine st_nil ?_|refine st_tN ?_|refine st_seq ?_|refine st_skip ?_|refine st_ret ?_|refine st_tE ?_|refine st_tR ?_)
 refine ASem.knot (g:=.func 49) (cap:=wcap l B) 4 9 rfl (by simp only[go_sem,↓reduceIte];rfl) ?_
 refine asem_awp (fi:=⟨9,[],[3],none,[]⟩) tab mixed (by decide) ?_
 simp only[go_sem]
 have hw:=hP (h.clk+1+1+1+1) (h.clk+1,4) (by omega) (by show h.clk≤h.clk+1;omega)
 repeat' (first|refine st_seq_reg rfl (by first|(simp only[go_sem];rfl)|rfl) (by first|(simp only[go_sem];rfl)|rfl) ?_|refine st_reg rfl (by first|(simp only[go_sem];rfl)|rfl) (by first|(simp only[go_sem];rfl)|rfl) ?_|refine st_op ?_|refine st_det rfl (by simp (disch:=omega) only[go_sem,wr_i64];rfl) ?_|refine st_loc rfl (by simp (disch:=omega) only[go_sem,wr_i64];rfl) ?_|refine st_heap rfl (by simp (disch:=omega) only[go_sem,wr_i64];rfl) ?_|refine st_store (by simp (disch:=omega) only[go_sem,wr_i64];rfl) ?_|(refine st_call (args:=[.int .i64 0,.int .i64 0,.int .i64 ((m:Nat):Int)]) rfl (by first|(simp (disch:=omega) only[go_sem];rfl)|(simp (disch:=omega) only[go_sem])) rfl (c49 l B hB I D bad hI hD hy m 8 (by omega) (by omega) 0 0 _ _ _ rfl rfl (Nat.zero_le _) hw) ?_;rintro v h' (⟨hf,rfl,hi2⟩|⟨x,hf,rfl,hd2⟩))|refine st_nil ?_|refine st_tN ?_|refine st_seq ?_|refine st_skip ?_|refine st_ret ?_|refine st_tE ?_|refine st_tR ?_)
 ·simp (disch:=omega) only[AEnd,Tryd.results48,aresK,fin,go_sem,implies_true,true_and,and_true,List.reverse_cons,List.reverse_nil]
  exact .inl ⟨hf,hi2⟩
 ·simp (disch:=omega) only[AEnd,Tryd.results48,aresK,fin,go_sem,implies_true,true_and,and_true,List.reverse_cons,List.reverse_nil]
  exact .inr ⟨x,hf,hd2⟩
end Go.Proofs.YtefogfgddofdmaaDoor
