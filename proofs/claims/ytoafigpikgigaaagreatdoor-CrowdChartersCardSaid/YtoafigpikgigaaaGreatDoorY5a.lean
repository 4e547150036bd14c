/- Contracts of functions that the claim reaches: what each call gives, told in our own logic. Conditions: those of each theorem. -/
import Derived.Test.YtoafigpikgigaaaGreatDoorQ6
import Derived.Test.YtoafigpikgigaaaGreatDoorW6
open List (length_map)
set_option linter.all false
set_option linter.unusedSimpArgs false
set_option linter.unusedVariables false
namespace Go.Proofs.YtoafigpikgigaaaGreatDoor
open Go.Av
attribute [local irreducible] thenA blockA awp awpOps awpD awp1
attribute [local go_sem_proc] Nat.reduceAdd Nat.reduceMul Nat.reduceEqDiff Nat.reduceBEq Nat.reduceLeDiff
attribute [local go_sem_proc ↓] reduceIte
attribute [local go_sem] if_yes if_no
set_option maxHeartbeats 8000000
set_option maxRecDepth 20000
theorem c32 (t:Tw):Pure Tryz.prog 32 [t.av] (fun v=>v=.int .i64 (chkE t)):=by
 have k3:=c46a 0 96 t.steps
 intro h
 refine ACalls.forget (ACalls.of tab mixed Tryz.call32 Tryz.func32 rfl (fi:=⟨77,[5,7],[1,42,55],none,[]⟩) rfl rfl (Nat.le_of_ble_eq_true rfl) (by decide) ?_)
 unfold startA
 simp only[go_sem]
 repeat' (first|refine st_seq_reg rfl (by first|(simp only[go_sem,Lm];rfl)|rfl) (by first|(simp only[go_sem,Lm];rfl)|rfl) ?_|refine st_op ?_|refine st_det rfl (by simp (disch:=omega) only[go_sem,wr_i64,Lm];rfl) ?_|(refine st_pureE (by first|(simp (disch:=omega) only[go_sem,Lm];rfl)|rfl) rfl (c46 0 1000000 t.rooms (by omega)) (by first|(simp only[go_sem,Lm];rfl)|rfl) (by intro n;first|(simp (disch:=omega) only[go_sem];rfl)|rfl) ?_;intro n hn)|(refine st_condS rfl ?_ ?_ <;> intro hg <;> (try simp only[dcT,dcF,bnT,bnF] at hg))|refine st_nil ?_|refine st_tN ?_|refine st_seq ?_|refine st_block ?_|refine st_skip ?_|refine st_ret ?_|refine st_tR ?_|refine st_bN ?_|refine st_bR ?_)
 all_goals try (exfalso;omega)
 ·simp (disch:=omega) only[AEnd,Tryz.results32,aresK,fin,go_sem,implies_true,true_and,and_true,List.reverse_cons,List.reverse_nil]
  unfold chkE;rw [if_pos (by omega)]
 ·simp (disch:=omega) only[AEnd,Tryz.results32,aresK,fin,go_sem,implies_true,true_and,and_true,List.reverse_cons,List.reverse_nil]
  unfold chkE;rw [if_neg (by omega),if_pos (by omega)]
 ·simp (disch:=omega) only[AEnd,Tryz.results32,aresK,fin,go_sem,implies_true,true_and,and_true,List.reverse_cons,List.reverse_nil]
  unfold chkE;rw [if_neg (by omega),if_neg (by omega),if_pos (by assumption)]
 ·simp (disch:=omega) only[AEnd,Tryz.results32,aresK,fin,go_sem,implies_true,true_and,and_true,List.reverse_cons,List.reverse_nil]
  unfold chkE;rw [if_neg (by omega),if_neg (by omega),if_neg (by simp [*]),if_pos (by omega)]
 have hE:chkE t=if errN (stE t) t.sts.length ≠ 0 then errN (stE t) t.sts.length else if ¬ (0≤t.steps∧t.steps≤96) then 2 else if 12 < t.gs.length then 5 else errN (fun i=>grpE t (gp t.gs i)) t.gs.length:=by
  unfold chkE;rw [if_neg (by omega),if_neg (by omega),if_neg (by simp [*]),if_neg (by omega)]
 refine st_loopC (α:=Nat) tab mixed [] [] (by repeat (first|exact trivial|refine ⟨rfl,?_⟩)) [] [] (by repeat (first|exact trivial|refine ⟨rfl,?_⟩)) (fun i=>[(31,.int .i64 (i:Nat))]) [(0,_),(1,_),(2,_),(3,_),(29,_),(30,_)] (fun _=>[]) [] (fun i=>i≤t.sts.length∧errN (stE t) i=0) (fun i=>t.sts.length - i) (by decide) 0 ⟨by omega,rfl⟩ (by (try simp only[go_sem]);repeat' (first|exact trivial|refine And.intro ?_ ?_|rfl|(simp (disch:=omega) only[go_sem,if_yes,if_no,if_no];rfl)|(simp (disch:=omega) only[go_sem,if_yes,if_no,if_no]))) (by (try simp only[go_sem]);repeat' (first|exact trivial|refine And.intro ?_ ?_|rfl|(simp (disch:=omega) only[go_sem,if_yes,if_no,if_no];rfl)|(simp (disch:=omega) only[go_sem,if_yes,if_no,if_no]))) (by first|(simp only[go_sem];rfl)|rfl) (by intro n;simp only[go_sem];rfl) ?_
 rintro i c ⟨hi',he⟩ hc
 simp only[go_sem]
 have q1:=c46b 0 (t.rooms.length - 1:Int) (sx t.sts i).a (sx t.sts i).b
 have e1:errN (stE t) (i+1)=stE t i:=errN_next he
 have e2:stE t i=if ¬ (0≤(sx t.sts i).a∧(sx t.sts i).a < t.rooms.length∧0≤(sx t.sts i).b∧(sx t.sts i).b < t.rooms.length) then 7 else if (sx t.sts i).a=(sx t.sts i).b then 1 else 0:=rfl
 by_cases hi:i < t.sts.length
 case pos =>
  repeat' (first|refine st_seq_reg rfl (by first|(simp only[go_sem,Lm];rfl)|rfl) (by first|(simp only[go_sem,Lm];rfl)|rfl) ?_|refine st_reg rfl (by first|(simp only[go_sem,Lm];rfl)|rfl) (by first|(simp only[go_sem,Lm];rfl)|rfl) ?_|refine st_op ?_|refine st_det rfl (by simp (disch:=omega) only[go_sem,wr_i64,Lm];rfl) ?_|refine st_loc rfl (by simp (disch:=omega) only[go_sem,wr_i64,Lm];rfl) ?_|refine st_store (by simp (disch:=omega) only[go_sem,wr_i64,Lm];rfl) ?_|(refine st_pureE (by first|(simp (disch:=omega) only[go_sem,Lm];rfl)|rfl) rfl (q1) (by first|(simp only[go_sem,Lm];rfl)|rfl) (by intro n;first|(simp (disch:=omega) only[go_sem];rfl)|rfl) ?_;intro n hn)|(refine st_condS rfl ?_ ?_ <;> intro hg <;> (try simp only[dcT,dcF,bnT,bnF] at hg))|refine st_nil ?_|refine st_tN ?_|refine st_seq ?_|refine st_block ?_|refine st_skip ?_|refine st_exit ?_|refine st_ret ?_|refine st_tE ?_|refine st_tR ?_|refine st_bN ?_|refine st_bR ?_|refine st_bH ?_)
  all_goals try (exfalso;omega)
  ·have hv:stE t i=7:=by rw [e2,if_pos (by omega)]
   simp (disch:=omega) only[AEnd,Tryz.results32,aresK,fin,go_sem,implies_true,true_and,and_true,List.reverse_cons,List.reverse_nil]
   rw [hE,errN_stop he (by omega) (by omega),if_pos (by omega),hv]
  ·have hv:stE t i=1:=by rw [e2,if_neg (by omega),if_pos (by omega)]
   simp (disch:=omega) only[AEnd,Tryz.results32,aresK,fin,go_sem,implies_true,true_and,and_true,List.reverse_cons,List.reverse_nil]
   rw [hE,errN_stop he (by omega) (by omega),if_pos (by omega),hv]
  ·have hv:stE t i=0:=by rw [e2,if_neg (by omega),if_neg (by omega)]
   refine ⟨i+1,⟨by omega,by omega⟩,by omega,(by repeat' (first|exact trivial|refine And.intro ?_ ?_|rfl|(simp (disch:=omega) only[go_sem,if_yes,if_no,if_no];rfl)|(simp (disch:=omega) only[go_sem,if_yes,if_no,if_no]))),(by repeat' (first|exact trivial|refine And.intro ?_ ?_|rfl|(simp (disch:=omega) only[go_sem,if_yes,if_no,if_no];rfl)|(simp (disch:=omega) only[go_sem,if_yes,if_no,if_no]))),rfl,(by first|exact HOld.of _ (by omega)|exact HOld.put _ _ _ (by omega))⟩
 obtain rfl:i=t.sts.length:=by omega
 repeat' (first|refine st_seq_reg rfl (by first|(simp only[go_sem,Lm];rfl)|rfl) (by first|(simp only[go_sem,Lm];rfl)|rfl) ?_|refine st_op ?_|refine st_det rfl (by simp (disch:=omega) only[go_sem,wr_i64,Lm];rfl) ?_|refine st_loc rfl (by simp (disch:=omega) only[go_sem,wr_i64,Lm];rfl) ?_|refine st_store (by simp (disch:=omega) only[go_sem,wr_i64,Lm];rfl) ?_|(refine st_pureE (by first|(simp (disch:=omega) only[go_sem,Lm];rfl)|rfl) rfl (k3) (by first|(simp only[go_sem,Lm];rfl)|rfl) (by intro n;first|(simp (disch:=omega) only[go_sem];rfl)|rfl) ?_;intro n hn)|(refine st_condS rfl ?_ ?_ <;> intro hg <;> (try simp only[dcT,dcF,bnT,bnF] at hg))|refine st_nil ?_|refine st_tN ?_|refine st_seq ?_|refine st_block ?_|refine st_skip ?_|refine st_exit ?_|refine st_ret ?_|refine st_tE ?_|refine st_tR ?_|refine st_bN ?_|refine st_bR ?_|refine st_bH ?_)
 all_goals try (exfalso;omega)
 ·simp (disch:=omega) only[AEnd,Tryz.results32,aresK,fin,go_sem,implies_true,true_and,and_true,List.reverse_cons,List.reverse_nil]
  rw [hE,if_neg (by omega),if_pos (by omega)]
 ·simp (disch:=omega) only[AEnd,Tryz.results32,aresK,fin,go_sem,implies_true,true_and,and_true,List.reverse_cons,List.reverse_nil]
  rw [hE,if_neg (by omega),if_neg (by omega),if_pos (by omega)]
 rw [if_neg (by omega),if_neg (by omega),if_neg (by omega)] at hE
 refine st_loopC (α:=Nat) tab mixed [] [] (by repeat (first|exact trivial|refine ⟨rfl,?_⟩)) [] [] (by repeat (first|exact trivial|refine ⟨rfl,?_⟩)) (fun i=>[(66,.int .i64 (i:Nat))]) [(0,_),(1,_),(2,_),(3,_),(64,_),(65,_)] (fun _=>[]) [] (fun i=>i≤t.gs.length∧errN (fun i=>grpE t (gp t.gs i)) i=0) (fun i=>t.gs.length - i) (by decide) 0 ⟨by omega,rfl⟩ (by (try simp only[go_sem]);repeat' (first|exact trivial|refine And.intro ?_ ?_|rfl|(simp (disch:=omega) only[go_sem,if_yes,if_no,if_no];rfl)|(simp (disch:=omega) only[go_sem,if_yes,if_no,if_no]))) (by (try simp only[go_sem]);repeat' (first|exact trivial|refine And.intro ?_ ?_|rfl|(simp (disch:=omega) only[go_sem,if_yes,if_no,if_no];rfl)|(simp (disch:=omega) only[go_sem,if_yes,if_no,if_no]))) (by first|(simp only[go_sem];rfl)|rfl) (by intro n;simp only[go_sem];rfl) ?_
 rintro j d ⟨hj',hf⟩ hd
 simp only[go_sem]
 have q2:=c58 t (gp t.gs j) (by omega) (by omega)
 have f1:errN (fun i=>grpE t (gp t.gs i)) (j+1)=grpE t (gp t.gs j):=errN_next hf
 repeat' (first|refine st_seq_reg rfl (by first|(simp only[go_sem,Lm];rfl)|rfl) (by first|(simp only[go_sem,Lm];rfl)|rfl) ?_|refine st_reg rfl (by first|(simp only[go_sem,Lm];rfl)|rfl) (by first|(simp only[go_sem,Lm];rfl)|rfl) ?_|refine st_op ?_|refine st_det rfl (by simp (disch:=omega) only[go_sem,wr_i64,Lm];rfl) ?_|refine st_loc rfl (by simp (disch:=omega) only[go_sem,wr_i64,Lm];rfl) ?_|refine st_store (by simp (disch:=omega) only[go_sem,wr_i64,Lm];rfl) ?_|(refine st_pureE (by first|(simp (disch:=omega) only[go_sem,Lm];rfl)|rfl) rfl (q2) (by first|(simp only[go_sem,Lm];rfl)|rfl) (by intro n;first|(simp (disch:=omega) only[go_sem];rfl)|rfl) ?_;intro n hn)|(refine st_condS rfl ?_ ?_ <;> intro hg <;> (try simp only[dcT,dcF,bnT,bnF] at hg))|refine st_nil ?_|refine st_tN ?_|refine st_seq ?_|refine st_block ?_|refine st_skip ?_|refine st_exit ?_|refine st_ret ?_|refine st_tE ?_|refine st_tR ?_|refine st_bN ?_|refine st_bR ?_|refine st_bH ?_)
 all_goals try (exfalso;omega)
 ·simp (disch:=omega) only[AEnd,Tryz.results32,aresK,fin,go_sem,implies_true,true_and,and_true,List.reverse_cons,List.reverse_nil]
  rw [hE,errN_stop hf (by omega) (by omega)]
 ·refine ⟨j+1,⟨by omega,by omega⟩,by omega,(by repeat' (first|exact trivial|refine And.intro ?_ ?_|rfl|(simp (disch:=omega) only[go_sem,if_yes,if_no,if_no];rfl)|(simp (disch:=omega) only[go_sem,if_yes,if_no,if_no]))),(by repeat' (first|exact trivial|refine And.intro ?_ ?_|rfl|(simp (disch:=omega) only[go_sem,if_yes,if_no,if_no];rfl)|(simp (disch:=omega) only[go_sem,if_yes,if_no,if_no]))),rfl,(by first|exact HOld.of _ (by omega)|exact HOld.put _ _ _ (by omega))⟩
 ·simp (disch:=omega) only[AEnd,Tryz.results32,aresK,fin,go_sem,implies_true,true_and,and_true,List.reverse_cons,List.reverse_nil]
  rw [hE,← (by omega:j=t.gs.length),hf]
end Go.Proofs.YtoafigpikgigaaaGreatDoor

namespace Go.Proofs.YtoafigpikgigaaaGreatDoor
open Go.Av
attribute [local irreducible] thenA blockA awp awpOps awpD awp1
attribute [local go_sem_proc] Nat.reduceAdd Nat.reduceMul Nat.reduceEqDiff Nat.reduceBEq Nat.reduceLeDiff
attribute [local go_sem_proc ↓] reduceIte
attribute [local go_sem] if_yes if_no
set_option maxHeartbeats 8000000
set_option maxRecDepth 20000
theorem allIn_next {lo hi:Int} {l:List Int} {i:Nat} (hi':i < l.length):allIn lo hi (l.drop i)=(decide (lo≤elt l i∧elt l i≤hi) && allIn lo hi (l.drop (i+1))):=by
 rw [drop_getD 0 hi'];rfl
theorem c15 (t:Tw):Pure Tryz.prog 15 [t.av] (fun v=>v=.int .i64 (chkE t)):=by
 have k3:=c43 t.steps 0 96
 intro h
 refine ACalls.forget (ACalls.of tab mixed Tryz.call15 Tryz.func15 rfl (fi:=⟨94,[5],[1],none,[(27,[0,0,2,0,14,30,63,127],[(0,true),(1,false),(2,true),(3,false),(4,false),(5,true),(6,false),(7,false)])]⟩) rfl rfl (Nat.le_of_ble_eq_true rfl) (by decide) ?_)
 unfold startA
 simp only[go_sem]
 repeat' (first|refine st_seq_reg rfl (by first|(simp only[go_sem,Lm];rfl)|rfl) (by first|(simp only[go_sem,Lm];rfl)|rfl) ?_|refine st_op ?_|refine st_det rfl (by simp (disch:=omega) only[go_sem,wr_i64,Lm];rfl) ?_|(refine st_condS rfl ?_ ?_ <;> intro hg <;> (try simp only[dcT,dcF,bnT,bnF] at hg))|refine st_nil ?_|refine st_tN ?_|refine st_seq ?_|refine st_block ?_|refine st_skip ?_|refine st_ret ?_|refine st_tR ?_)
 all_goals try (exfalso;omega)
 ·simp (disch:=omega) only[AEnd,Tryz.results15,aresK,fin,go_sem,implies_true,true_and,and_true,List.reverse_cons,List.reverse_nil]
  unfold chkE;rw [if_pos (by omega)]
 ·simp (disch:=omega) only[AEnd,Tryz.results15,aresK,fin,go_sem,implies_true,true_and,and_true,List.reverse_cons,List.reverse_nil]
  unfold chkE;rw [if_neg (by omega),if_pos (by omega)]
 refine st_loopC (α:=Nat) tab mixed [] [] (by repeat (first|exact trivial|refine ⟨rfl,?_⟩)) [] [] (by repeat (first|exact trivial|refine ⟨rfl,?_⟩)) (fun i=>[(3,.int .i64 (i:Nat))]) [(0,_),(1,_),(2,_)] (fun _=>[]) [] (fun i=>i≤t.rooms.length∧allIn 0 1000000 (t.rooms.drop i)=allIn 0 1000000 t.rooms) (fun i=>t.rooms.length - i) (by decide) 0 ⟨by omega,rfl⟩ (by (try simp only[go_sem]);repeat' (first|exact trivial|refine And.intro ?_ ?_|rfl|(simp (disch:=omega) only[go_sem,if_yes,if_no,if_no];rfl)|(simp (disch:=omega) only[go_sem,if_yes,if_no,if_no]))) (by (try simp only[go_sem]);repeat' (first|exact trivial|refine And.intro ?_ ?_|rfl|(simp (disch:=omega) only[go_sem,if_yes,if_no,if_no];rfl)|(simp (disch:=omega) only[go_sem,if_yes,if_no,if_no]))) (by first|(simp only[go_sem];rfl)|rfl) (by intro n;simp only[go_sem];rfl) ?_
 rintro i c ⟨hi',hall⟩ hc
 simp only[go_sem]
 by_cases hi:i < t.rooms.length
 case pos =>
  have hnx:=allIn_next (lo:=0) (hi:=1000000) hi
  repeat' (first|refine st_seq_reg rfl (by first|(simp only[go_sem,Lm];rfl)|rfl) (by first|(simp only[go_sem,Lm];rfl)|rfl) ?_|refine st_reg rfl (by first|(simp only[go_sem,Lm];rfl)|rfl) (by first|(simp only[go_sem,Lm];rfl)|rfl) ?_|refine st_op ?_|refine st_det rfl (by simp (disch:=omega) only[go_sem,wr_i64,Lm];rfl) ?_|(refine st_pureE (by first|(simp (disch:=omega) only[go_sem,Lm];rfl)|rfl) rfl (c43 (elt t.rooms i) 0 1000000) (by first|(simp only[go_sem,Lm];rfl)|rfl) (by intro n;first|(simp (disch:=omega) only[go_sem];rfl)|rfl) ?_;intro n hn)|(refine st_condS rfl ?_ ?_ <;> intro hg <;> (try simp only[dcT,dcF,bnT,bnF] at hg))|refine st_nil ?_|refine st_tN ?_|refine st_seq ?_|refine st_block ?_|refine st_skip ?_|refine st_exit ?_|refine st_ret ?_|refine st_tE ?_|refine st_tR ?_|refine st_bN ?_|refine st_bR ?_|refine st_bH ?_)
  all_goals try (exfalso;omega)
  ·simp (disch:=omega) only[AEnd,Tryz.results15,aresK,fin,go_sem,implies_true,true_and,and_true,List.reverse_cons,List.reverse_nil]
   unfold chkE;rw [if_neg (by omega),if_neg (by omega),if_pos (by rw [← hall,hnx,decide_eq_false (by omega)];rfl)]
  ·refine ⟨i+1,⟨by omega,by rw [← hall,hnx,decide_eq_true (by omega)];rfl⟩,by omega,(by repeat' (first|exact trivial|refine And.intro ?_ ?_|rfl|(simp (disch:=omega) only[go_sem,if_yes,if_no,if_no];rfl)|(simp (disch:=omega) only[go_sem,if_yes,if_no,if_no]))),(by repeat' (first|exact trivial|refine And.intro ?_ ?_|rfl|(simp (disch:=omega) only[go_sem,if_yes,if_no,if_no];rfl)|(simp (disch:=omega) only[go_sem,if_yes,if_no,if_no]))),rfl,(by first|exact HOld.of _ (by omega)|exact HOld.put _ _ _ (by omega))⟩
 obtain rfl:i=t.rooms.length:=by omega
 have hall':allIn 0 1000000 t.rooms=true:=by rw [← hall,List.drop_eq_nil_of_le (by omega)];rfl
 repeat' (first|refine st_seq_reg rfl (by first|(simp only[go_sem,Lm];rfl)|rfl) (by first|(simp only[go_sem,Lm];rfl)|rfl) ?_|refine st_op ?_|refine st_det rfl (by simp (disch:=omega) only[go_sem,wr_i64,Lm];rfl) ?_|(refine st_condS rfl ?_ ?_ <;> intro hg <;> (try simp only[dcT,dcF,bnT,bnF] at hg))|refine st_nil ?_|refine st_tN ?_|refine st_seq ?_|refine st_block ?_|refine st_skip ?_|refine st_exit ?_|refine st_ret ?_|refine st_tE ?_|refine st_tR ?_|refine st_bH ?_)
 all_goals try (exfalso;omega)
 ·simp (disch:=omega) only[AEnd,Tryz.results15,aresK,fin,go_sem,implies_true,true_and,and_true,List.reverse_cons,List.reverse_nil]
  unfold chkE;rw [if_neg (by omega),if_neg (by omega),if_neg (by simp [hall']),if_pos (by omega)]
 have hE:chkE t=if errN (stE t) t.sts.length ≠ 0 then errN (stE t) t.sts.length else if ¬ (0≤t.steps∧t.steps≤96) then 2 else if 12 < t.gs.length then 5 else errN (fun i=>grpE t (gp t.gs i)) t.gs.length:=by
  unfold chkE;rw [if_neg (by omega),if_neg (by omega),if_neg (by simp [hall']),if_neg (by omega)]
 refine st_loopC (α:=Nat) tab mixed [] [] (by repeat (first|exact trivial|refine ⟨rfl,?_⟩)) [] [] (by repeat (first|exact trivial|refine ⟨rfl,?_⟩)) (fun i=>[(4,.int .i64 (i:Nat))]) [(0,_),(1,_),(2,_)] (fun _=>[]) [] (fun i=>i≤t.sts.length∧errN (stE t) i=0) (fun i=>t.sts.length - i) (by decide) 0 ⟨by omega,rfl⟩ (by (try simp only[go_sem]);repeat' (first|exact trivial|refine And.intro ?_ ?_|rfl|(simp (disch:=omega) only[go_sem,if_yes,if_no,if_no];rfl)|(simp (disch:=omega) only[go_sem,if_yes,if_no,if_no]))) (by (try simp only[go_sem]);repeat' (first|exact trivial|refine And.intro ?_ ?_|rfl|(simp (disch:=omega) only[go_sem,if_yes,if_no,if_no];rfl)|(simp (disch:=omega) only[go_sem,if_yes,if_no,if_no]))) (by first|(simp only[go_sem];rfl)|rfl) (by intro n;simp only[go_sem];rfl) ?_
 rintro i c ⟨hi',he⟩ hc
 simp only[go_sem]
 have q1:=c43 (sx t.sts i).a 0 (t.rooms.length - 1:Int)
 have q3:=c43 (sx t.sts i).b 0 (t.rooms.length - 1:Int)
 have e1:errN (stE t) (i+1)=stE t i:=errN_next he
 have e2:stE t i=if ¬ (0≤(sx t.sts i).a∧(sx t.sts i).a < t.rooms.length∧0≤(sx t.sts i).b∧(sx t.sts i).b < t.rooms.length) then 7 else if (sx t.sts i).a=(sx t.sts i).b then 1 else 0:=rfl
 by_cases hi:i < t.sts.length
 case pos =>
  by_cases a1:¬ (0≤(sx t.sts i).a∧(sx t.sts i).a < t.rooms.length∧0≤(sx t.sts i).b∧(sx t.sts i).b < t.rooms.length)
  ·rw [if_pos a1] at e2
   repeat' (first|refine st_seq_reg rfl (by first|(simp only[go_sem,Lm];rfl)|rfl) (by first|(simp only[go_sem,Lm];rfl)|rfl) ?_|refine st_reg rfl (by first|(simp only[go_sem,Lm];rfl)|rfl) (by first|(simp only[go_sem,Lm];rfl)|rfl) ?_|refine st_op ?_|refine st_det rfl (by simp (disch:=omega) only[go_sem,wr_i64,Lm];rfl) ?_|refine st_loc rfl (by simp (disch:=omega) only[go_sem,wr_i64,Lm];rfl) ?_|refine st_store (by simp (disch:=omega) only[go_sem,wr_i64,Lm];rfl) ?_|(refine st_pureE (by first|(simp (disch:=omega) only[go_sem,Lm];rfl)|rfl) rfl (q1) (by first|(simp only[go_sem,Lm];rfl)|rfl) (by intro n;first|(simp (disch:=omega) only[go_sem];rfl)|rfl) ?_;intro n hn)|(refine st_pureE (by first|(simp (disch:=omega) only[go_sem,Lm];rfl)|rfl) rfl (q3) (by first|(simp only[go_sem,Lm];rfl)|rfl) (by intro n;first|(simp (disch:=omega) only[go_sem];rfl)|rfl) ?_;intro n hn)|refine st_gT rfl rfl rfl ?_|refine st_gF rfl rfl rfl ?_|(refine st_gS rfl rfl ?_ ?_ <;> intro hg <;> (try simp only[dcT,dcF,bnT,bnF] at hg))|refine st_condT rfl ?_|(refine st_condS rfl ?_ ?_ <;> intro hg <;> (try simp only[dcT,dcF,bnT,bnF] at hg))|refine st_nil ?_|refine st_tN ?_|refine st_seq ?_|refine st_block ?_|refine st_skip ?_|refine st_exit ?_|refine st_ret ?_|refine st_tE ?_|refine st_tR ?_|refine st_bN ?_|refine st_bR ?_|refine st_bH ?_)
   all_goals try (exfalso;omega)
   all_goals
    simp (disch:=omega) only[AEnd,Tryz.results15,aresK,fin,go_sem,implies_true,true_and,and_true,List.reverse_cons,List.reverse_nil]
    rw [hE,errN_stop he (by omega) (by omega),if_pos (by omega),e2]
  rw [if_neg a1] at e2
  by_cases a2:(sx t.sts i).a=(sx t.sts i).b
  ·rw [if_pos a2] at e2
   repeat' (first|refine st_seq_reg rfl (by first|(simp only[go_sem,Lm];rfl)|rfl) (by first|(simp only[go_sem,Lm];rfl)|rfl) ?_|refine st_reg rfl (by first|(simp only[go_sem,Lm];rfl)|rfl) (by first|(simp only[go_sem,Lm];rfl)|rfl) ?_|refine st_op ?_|refine st_det rfl (by simp (disch:=omega) only[go_sem,wr_i64,Lm];rfl) ?_|refine st_loc rfl (by simp (disch:=omega) only[go_sem,wr_i64,Lm];rfl) ?_|refine st_store (by simp (disch:=omega) only[go_sem,wr_i64,Lm];rfl) ?_|(refine st_pureE (by first|(simp (disch:=omega) only[go_sem,Lm];rfl)|rfl) rfl (q1) (by first|(simp only[go_sem,Lm];rfl)|rfl) (by intro n;first|(simp (disch:=omega) only[go_sem];rfl)|rfl) ?_;intro n hn)|(refine st_pureE (by first|(simp (disch:=omega) only[go_sem,Lm];rfl)|rfl) rfl (q3) (by first|(simp only[go_sem,Lm];rfl)|rfl) (by intro n;first|(simp (disch:=omega) only[go_sem];rfl)|rfl) ?_;intro n hn)|refine st_gT rfl rfl rfl ?_|refine st_gF rfl rfl rfl ?_|(refine st_gS rfl rfl ?_ ?_ <;> intro hg <;> (try simp only[dcT,dcF,bnT,bnF] at hg))|refine st_condT rfl ?_|(refine st_condS rfl ?_ ?_ <;> intro hg <;> (try simp only[dcT,dcF,bnT,bnF] at hg))|refine st_nil ?_|refine st_tN ?_|refine st_seq ?_|refine st_block ?_|refine st_skip ?_|refine st_exit ?_|refine st_ret ?_|refine st_tE ?_|refine st_tR ?_|refine st_bN ?_|refine st_bR ?_|refine st_bH ?_)
   all_goals try (exfalso;omega)
   all_goals
    simp (disch:=omega) only[AEnd,Tryz.results15,aresK,fin,go_sem,implies_true,true_and,and_true,List.reverse_cons,List.reverse_nil]
    rw [hE,errN_stop he (by omega) (by omega),if_pos (by omega),e2]
  rw [if_neg a2] at e2
  repeat' (first|refine st_seq_reg rfl (by first|(simp only[go_sem,Lm];rfl)|rfl) (by first|(simp only[go_sem,Lm];rfl)|rfl) ?_|refine st_reg rfl (by first|(simp only[go_sem,Lm];rfl)|rfl) (by first|(simp only[go_sem,Lm];rfl)|rfl) ?_|refine st_op ?_|refine st_det rfl (by simp (disch:=omega) only[go_sem,wr_i64,Lm];rfl) ?_|refine st_loc rfl (by simp (disch:=omega) only[go_sem,wr_i64,Lm];rfl) ?_|refine st_store (by simp (disch:=omega) only[go_sem,wr_i64,Lm];rfl) ?_|(refine st_pureE (by first|(simp (disch:=omega) only[go_sem,Lm];rfl)|rfl) rfl (q1) (by first|(simp only[go_sem,Lm];rfl)|rfl) (by intro n;first|(simp (disch:=omega) only[go_sem];rfl)|rfl) ?_;intro n hn)|(refine st_pureE (by first|(simp (disch:=omega) only[go_sem,Lm];rfl)|rfl) rfl (q3) (by first|(simp only[go_sem,Lm];rfl)|rfl) (by intro n;first|(simp (disch:=omega) only[go_sem];rfl)|rfl) ?_;intro n hn)|refine st_gT rfl rfl rfl ?_|refine st_gF rfl rfl rfl ?_|(refine st_gS rfl rfl ?_ ?_ <;> intro hg <;> (try simp only[dcT,dcF,bnT,bnF] at hg))|refine st_condT rfl ?_|(refine st_condS rfl ?_ ?_ <;> intro hg <;> (try simp only[dcT,dcF,bnT,bnF] at hg))|refine st_nil ?_|refine st_tN ?_|refine st_seq ?_|refine st_block ?_|refine st_skip ?_|refine st_exit ?_|refine st_ret ?_|refine st_tE ?_|refine st_tR ?_|refine st_bN ?_|refine st_bR ?_|refine st_bH ?_)
  all_goals try (exfalso;omega)
  all_goals
   refine ⟨i+1,⟨by omega,by omega⟩,by omega,(by repeat' (first|exact trivial|refine And.intro ?_ ?_|rfl|(simp (disch:=omega) only[go_sem,if_yes,if_no,if_no];rfl)|(simp (disch:=omega) only[go_sem,if_yes,if_no,if_no]))),(by repeat' (first|exact trivial|refine And.intro ?_ ?_|rfl|(simp (disch:=omega) only[go_sem,if_yes,if_no,if_no];rfl)|(simp (disch:=omega) only[go_sem,if_yes,if_no,if_no]))),rfl,(by first|exact HOld.of _ (by omega)|exact HOld.put _ _ _ (by omega))⟩
 obtain rfl:i=t.sts.length:=by omega
 repeat' (first|refine st_seq_reg rfl (by first|(simp only[go_sem,Lm];rfl)|rfl) (by first|(simp only[go_sem,Lm];rfl)|rfl) ?_|refine st_op ?_|refine st_det rfl (by simp (disch:=omega) only[go_sem,wr_i64,Lm];rfl) ?_|refine st_loc rfl (by simp (disch:=omega) only[go_sem,wr_i64,Lm];rfl) ?_|refine st_store (by simp (disch:=omega) only[go_sem,wr_i64,Lm];rfl) ?_|(refine st_pureE (by first|(simp (disch:=omega) only[go_sem,Lm];rfl)|rfl) rfl (k3) (by first|(simp only[go_sem,Lm];rfl)|rfl) (by intro n;first|(simp (disch:=omega) only[go_sem];rfl)|rfl) ?_;intro n hn)|(refine st_condS rfl ?_ ?_ <;> intro hg <;> (try simp only[dcT,dcF,bnT,bnF] at hg))|refine st_nil ?_|refine st_tN ?_|refine st_seq ?_|refine st_block ?_|refine st_skip ?_|refine st_exit ?_|refine st_ret ?_|refine st_tE ?_|refine st_tR ?_|refine st_bH ?_)
 all_goals try (exfalso;omega)
 ·simp (disch:=omega) only[AEnd,Tryz.results15,aresK,fin,go_sem,implies_true,true_and,and_true,List.reverse_cons,List.reverse_nil]
  rw [hE,if_neg (by omega),if_pos (by omega)]
 ·simp (disch:=omega) only[AEnd,Tryz.results15,aresK,fin,go_sem,implies_true,true_and,and_true,List.reverse_cons,List.reverse_nil]
  rw [hE,if_neg (by omega),if_neg (by omega),if_pos (by omega)]
 rw [if_neg (by omega),if_neg (by omega),if_neg (by omega)] at hE
 refine st_loopC (α:=Nat) tab mixed [] [] (by repeat (first|exact trivial|refine ⟨rfl,?_⟩)) [] [] (by repeat (first|exact trivial|refine ⟨rfl,?_⟩)) (fun i=>[(6,.int .i64 (i:Nat))]) [(0,_),(1,_),(2,_)] (fun _=>[]) [] (fun i=>i≤t.gs.length∧errN (fun i=>grpE t (gp t.gs i)) i=0) (fun i=>t.gs.length - i) (by decide) 0 ⟨by omega,rfl⟩ (by (try simp only[go_sem]);repeat' (first|exact trivial|refine And.intro ?_ ?_|rfl|(simp (disch:=omega) only[go_sem,if_yes,if_no,if_no];rfl)|(simp (disch:=omega) only[go_sem,if_yes,if_no,if_no]))) (by (try simp only[go_sem]);repeat' (first|exact trivial|refine And.intro ?_ ?_|rfl|(simp (disch:=omega) only[go_sem,if_yes,if_no,if_no];rfl)|(simp (disch:=omega) only[go_sem,if_yes,if_no,if_no]))) (by first|(simp only[go_sem];rfl)|rfl) (by intro n;simp only[go_sem];rfl) ?_
 rintro j d ⟨hj',hf⟩ hd
 simp only[go_sem]
 have q2:=c44 t (gp t.gs j) (by omega) (by omega)
 have f1:errN (fun i=>grpE t (gp t.gs i)) (j+1)=grpE t (gp t.gs j):=errN_next hf
 repeat' (first|refine st_seq_reg rfl (by first|(simp only[go_sem,Lm];rfl)|rfl) (by first|(simp only[go_sem,Lm];rfl)|rfl) ?_|refine st_reg rfl (by first|(simp only[go_sem,Lm];rfl)|rfl) (by first|(simp only[go_sem,Lm];rfl)|rfl) ?_|refine st_seq_draw rfl (by first|(simp only[go_sem,Lm];rfl)|rfl) (by first|(simp only[go_sem,Lm];rfl)|rfl) ?_|refine st_op ?_|refine st_det rfl (by simp (disch:=omega) only[go_sem,wr_i64,Lm];rfl) ?_|refine st_dop rfl ?_|(refine st_pureE (by first|(simp (disch:=omega) only[go_sem,Lm];rfl)|rfl) rfl (q2) (by first|(simp only[go_sem,Lm];rfl)|rfl) (by intro n;first|(simp (disch:=omega) only[go_sem];rfl)|rfl) ?_;intro n hn)|(refine st_condS rfl ?_ ?_ <;> intro hg <;> (try simp only[dcT,dcF,bnT,bnF] at hg))|refine st_nil ?_|refine st_dnil ?_|refine st_tN ?_|refine st_seq ?_|refine st_block ?_|refine st_skip ?_|refine st_exit ?_|refine st_ret ?_|refine st_tE ?_|refine st_tR ?_|refine st_bN ?_|refine st_bR ?_|refine st_bH ?_)
 all_goals try (exfalso;omega)
 ·simp (disch:=omega) only[AEnd,Tryz.results15,aresK,fin,go_sem,implies_true,true_and,and_true,List.reverse_cons,List.reverse_nil]
  rw [hE,errN_stop hf (by omega) (by omega)]
 ·refine ⟨j+1,⟨by omega,by omega⟩,by omega,(by repeat' (first|exact trivial|refine And.intro ?_ ?_|rfl|(simp (disch:=omega) only[go_sem,if_yes,if_no,if_no];rfl)|(simp (disch:=omega) only[go_sem,if_yes,if_no,if_no]))),(by repeat' (first|exact trivial|refine And.intro ?_ ?_|rfl|(simp (disch:=omega) only[go_sem,if_yes,if_no,if_no];rfl)|(simp (disch:=omega) only[go_sem,if_yes,if_no,if_no]))),rfl,(by first|exact HOld.of _ (by omega)|exact HOld.put _ _ _ (by omega))⟩
 ·simp (disch:=omega) only[AEnd,Tryz.results15,aresK,fin,go_sem,implies_true,true_and,and_true,List.reverse_cons,List.reverse_nil]
  rw [hE,← (by omega:j=t.gs.length),hf]
end Go.Proofs.YtoafigpikgigaaaGreatDoor

namespace Go.Proofs.YtoafigpikgigaaaGreatDoor
open Go.Av Go.Txt Go.Lib
set_option maxRecDepth 20000
def loopIn:Code→Option Code
 | .seq a b=>match loopIn a with|some c=>some c|none=>loopIn b
 | .cond _ a b=>match loopIn a with|some c=>some c|none=>loopIn b
 | .block _ b=>loopIn b
 | .loop c=>some c
 | .scope b=>loopIn b
 | _=>none
def loopB (f:Func):Option Code:=f.body.bind loopIn
theorem q_ret {i:Nat} {K:AS→Prop} {Q:Exit→AS→Prop} {s:AS} (h:Q .ret s):blockA i (thenA K Q) .ret s:=h
theorem bad_le {k:Nat} {e:Int}:VLe (.tup [.agg [.nils,.nils,.nils,.int .i64 0],.int .i64 (k:Nat),.int .i64 e]) (badV k e) :=
 VLe.tup (VLes.mid (pre:=[]) (post:=[.int .i64 (k:Nat),.int .i64 e]) (VLe.agg (by simp only[VLes];exact ⟨_,_,rfl,VLe.nils 1,_,_,rfl,VLe.nils 2,_,_,rfl,VLe.nils 7,_,_,rfl,VLe.refl _,rfl⟩) rfl))
theorem SlA.cells {h0 z:Nat} {g:AH} {v:AV} {l:List (List AV)} (h:SlA h0 g v z l):v.cells=[v]:=by
 rcases h with ⟨rfl,rfl⟩|⟨b,rfl,h2⟩
 ·rfl
 ·rfl
theorem SlA.alen {h0 z:Nat} {g:AH} {v:AV} {l:List (List AV)} (h:SlA h0 g v z l) {ti:TI} {el:Nat} (hk:ti.k=.slice el):Go.Av.alen ti v=some (l.length:Int):=by
 rcases h with ⟨rfl,rfl⟩|⟨b,rfl,h2⟩
 ·unfold Go.Av.alen;rw [hk];rfl
 ·unfold Go.Av.alen;rw [hk]
theorem frzss_iv {b:Bid} {k:Blk}:∀ (l:List Int),frzss b k (l.map iv)=l.map iv
 | []=>by simp only[List.map_nil,frzss]
 | x :: l=>by simp only[List.map_cons,frzss,frzss_iv l,iv,frzs,frz]
theorem frzss_sx {b:Bid} {k:Blk}:∀ (l:List Sx),frzss b k (l.map Sx.row)=l.map Sx.row
 | []=>by simp only[List.map_nil,frzss]
 | x :: l=>by simp only[List.map_cons,frzss,frzss_sx l,Sx.row,frzs,frz]
structure RdS where
 i:Nat
 v1:AV
 v2:AV
 v3:AV
 st:LSt
 g:AH
abbrev rInv (h:AH) (body:List (List UInt8)) (nb:Nat) (a:RdS):Prop:=a.i≤nb∧runR 0 st0 body=runR a.i a.st (body.drop a.i)∧SlA h.clk a.g a.v1 1 (a.st.t.rooms.map iv)∧SlA h.clk a.g a.v2 2 (a.st.t.sts.map Sx.row)∧SlA h.clk a.g a.v3 7 (a.st.t.gs.map Gp.row)∧Dis 1 2 a.v1 a.v2∧Dis 1 7 a.v1 a.v3∧Dis 2 7 a.v2 a.v3∧a.st.t.rooms.length≤a.i∧a.st.t.sts.length≤a.i∧a.st.t.gs.length≤a.i∧(∀ b':Bid,b'.1 < h.clk→a.g.at_ b'=h.at_ b')∧a.g.lp=h.lp∧a.g.gl=gT∧h.clk+1≤a.g.clk
abbrev rV (x:Nat) (a:RdS):List (Nat × AV):=[(x,.int .i64 (a.i:Nat)),(7,.bool a.st.e)]
abbrev rBx (a:RdS):List AV:=[a.v1,a.v2,a.v3,.int .i64 a.st.t.steps]
abbrev rNxt (h:AH) (body:List (List UInt8)) (nb x:Nat) (C:List (Nat × AV)) (bs:List Bid) (VB:RdS→List (List AV)) (i:Nat) (s:AS):Prop:=∃ a',rInv h body nb a'∧nb - a'.i < nb - i∧keepOk s.tmp (rV x a' ++ C)∧keepBOk s.box (bs.zip (VB a') ++ [].zip [])∧s.mks=[]∧HOld a'.g s.h
abbrev rEnd (h:AH) (text:List UInt8) (v:AV) (h':AH):Prop:=(∀ (b':Bid),b'.1 < h.clk→h'.at_ b'=h.at_ b')∧h'.lp=h.lp∧((∃ v',VLe v v'∧v'=rdV text) ∨ ∃ b2 k,h.clk≤b2.1∧h'.at_ b2=some k∧frz b2 k v=rdV text)
theorem row_cnt {k:Nat} {s w:List UInt8} {l:List Int} (h:rowP k s=some (w,l)):l.length≤s.length:=by
 have h1:=splitL_len 32 s
 unfold rowP at h
 cases hs:splitL 32 s with
 | nil=>exact absurd hs (splitL_ne _ _)
 | cons x ws =>
  rw [hs] at h h1
  simp only at h
  obtain ⟨l',h2,h3⟩:=Option.map_eq_some_iff.1 h
  injection h3 with h4 h5
  subst h5
  rw [numsP_len h2]
  rw [List.length_cons] at h1
  omega
end Go.Proofs.YtoafigpikgigaaaGreatDoor
