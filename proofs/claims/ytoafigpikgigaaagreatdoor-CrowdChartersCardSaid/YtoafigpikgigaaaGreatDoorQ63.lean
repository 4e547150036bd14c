/- Contracts of functions that the claim reaches: what each call gives, told in our own logic. Conditions: those of each theorem. -/
import Derived.Test.YtoafigpikgigaaaGreatDoorQ60
open List (length_map)
set_option linter.all false
set_option linter.unusedSimpArgs false
set_option linter.unusedVariables false
namespace Go.Proofs.YtoafigpikgigaaaGreatDoor
open Go.Av
attribute [local irreducible] thenA blockA awp awpOps awpD awp1
attribute [local go_sem_proc] Nat.reduceAdd Nat.reduceMul Nat.reduceEqDiff Nat.reduceBEq Nat.reduceLeDiff
attribute [local go_sem_proc ↓] reduceIte
attribute [local go_sem] if_yes if_no
set_option maxHeartbeats 8000000
set_option maxRecDepth 20000
theorem c24s (a:List Int) (ha:a.length≤1000000):Pure Tryz.prog 24 [.lst 1 (a.map iv),.lst 1 (a.map iv)] (fun v=>v=.bool true):=by
 have k:=c24 a a ha ha
 rw [decide_eq_true rfl] at k
 exact k
theorem c14 (t:Tw) (hl:t.lens):Pure Tryz.prog 14 [t.av,t.av] (fun v=>v=.bool true):=by
 have h1:=hl.r
 have h2:=hl.s
 have h3:=hl.g
 have k31:=c24s t.rooms (by omega)
 have ht0:t.av=.agg t.cells:=rfl
 intro h
 refine ACalls.forget (ACalls.of tab mixed Tryz.call14 Tryz.func14 rfl (fi:=⟨115,[9],[2,3],none,[(5,[0,1,0,7,15,0,32,0,224,480,1023,2047],[(0,false),(1,true),(2,false),(3,false),(4,true),(5,false),(6,true),(7,false),(8,false),(9,true),(10,false),(11,false)]),(9,[0,1,0,7,15,0,32,0,224,480,0,0,3103,8191],[(0,false),(1,true),(2,false),(3,false),(4,true),(5,false),(6,true),(7,false),(8,false),(9,true),(10,false),(11,false),(12,true),(13,false)])]⟩) rfl rfl (Nat.le_of_ble_eq_true rfl) (by decide) ?_)
 unfold startA
 rw [ht0]
 unfold Tw.cells
 repeat' (first|refine st_seq_reg rfl (by first|(simp only[go_sem,Lm,decide_true];rfl)|rfl) (by first|(simp only[go_sem,Lm,decide_true];rfl)|rfl) ?_|refine st_op ?_|refine st_det rfl (by simp (disch:=omega) only[go_sem,wr_i64,Lm,decide_true];rfl) ?_|(refine st_pureE (by first|(simp (disch:=omega) only[go_sem,Lm,decide_true];rfl)|rfl) rfl (k31) (by first|(simp only[go_sem,Lm,decide_true];rfl)|rfl) (by intro n;first|(simp (disch:=omega) only[go_sem];rfl)|rfl) ?_;intro n hn)|refine st_gT rfl rfl rfl ?_|refine st_nil ?_|refine st_seq ?_|refine st_block ?_)
 all_goals try (exfalso;omega)
 refine st_loopC (α:=Nat) tab mixed [] [] (by repeat (first|exact trivial|refine ⟨rfl,?_⟩)) [] [] (by repeat (first|exact trivial|refine ⟨rfl,?_⟩)) (fun i=>[(6,.int .i64 (i:Nat)),(5,.bool true)]) [(2,_),(3,_)] (fun _=>[]) [] (fun i=>i≤t.sts.length) (fun i=>t.sts.length - i) (by decide) 0 (Nat.zero_le _) (by (try simp only[go_sem]);repeat' (first|exact trivial|refine And.intro ?_ ?_|rfl|(simp (disch:=omega) only[go_sem,if_yes,if_no,if_no];rfl)|(simp (disch:=omega) only[go_sem,if_yes,if_no,if_no]))) (by (try simp only[go_sem]);repeat' (first|exact trivial|refine And.intro ?_ ?_|rfl|(simp (disch:=omega) only[go_sem,if_yes,if_no,if_no];rfl)|(simp (disch:=omega) only[go_sem,if_yes,if_no,if_no]))) (by first|(simp only[go_sem];rfl)|rfl) (by intro n;simp only[go_sem];rfl) ?_
 rintro i c hi1 hc
 simp only[go_sem]
 by_cases hi:i < t.sts.length
 case pos =>
  repeat' (first|refine st_seq_reg rfl (by first|(simp only[go_sem,Lm,decide_true];rfl)|rfl) (by first|(simp only[go_sem,Lm,decide_true];rfl)|rfl) ?_|refine st_reg rfl (by first|(simp only[go_sem,Lm,decide_true];rfl)|rfl) (by first|(simp only[go_sem,Lm,decide_true];rfl)|rfl) ?_|refine st_draw rfl (by first|(simp only[go_sem,Lm,decide_true];rfl)|rfl) (by first|(simp only[go_sem,Lm,decide_true];rfl)|rfl) ?_|refine st_op ?_|refine st_det rfl (by simp (disch:=omega) only[go_sem,wr_i64,Lm,decide_true];rfl) ?_|refine st_dop rfl ?_|refine st_gT rfl rfl rfl ?_|(refine st_condS rfl ?_ ?_ <;> intro hg <;> (try simp only[dcT,dcF,bnT,bnF] at hg))|refine st_nil ?_|refine st_dnil ?_|refine st_tN ?_|refine st_seq ?_|refine st_block ?_|refine st_skip ?_|refine st_exit ?_|refine st_tE ?_|refine st_bN ?_|refine st_bH ?_)
  all_goals try (exfalso;omega)
  refine ⟨i+1,by show i+1≤_;omega,by show t.sts.length - (i+1) < t.sts.length - i;omega,(by repeat' (first|exact trivial|refine And.intro ?_ ?_|rfl|(simp (disch:=omega) only[go_sem,if_yes,if_no,if_no];rfl)|(simp (disch:=omega) only[go_sem,if_yes,if_no,if_no]))),(by repeat' (first|exact trivial|refine And.intro ?_ ?_|rfl|(simp (disch:=omega) only[go_sem,if_yes,if_no,if_no];rfl)|(simp (disch:=omega) only[go_sem,if_yes,if_no,if_no]))),rfl,(by first|exact HOld.of _ (by omega)|exact HOld.put _ _ _ (by omega))⟩
 obtain rfl:i=t.sts.length:=by omega
 repeat' (first|refine st_seq_reg rfl (by first|(simp only[go_sem,Lm];rfl)|rfl) (by first|(simp only[go_sem,Lm];rfl)|rfl) ?_|refine st_reg rfl (by first|(simp only[go_sem,Lm];rfl)|rfl) (by first|(simp only[go_sem,Lm];rfl)|rfl) ?_|refine st_draw rfl (by first|(simp only[go_sem,Lm];rfl)|rfl) (by first|(simp only[go_sem,Lm];rfl)|rfl) ?_|refine st_op ?_|refine st_det rfl (by simp (disch:=omega) only[go_sem,wr_i64,Lm];rfl) ?_|refine st_dop rfl ?_|refine st_gT rfl rfl rfl ?_|(refine st_condS rfl ?_ ?_ <;> intro hg <;> (try simp only[dcT,dcF,bnT,bnF] at hg))|refine st_nil ?_|refine st_dnil ?_|refine st_tN ?_|refine st_seq ?_|refine st_block ?_|refine st_skip ?_|refine st_exit ?_|refine st_tE ?_|refine st_bN ?_|refine st_bH ?_)
 all_goals try (exfalso;omega)
 refine st_loopH (α:=Nat × AH) tab mixed [] [] (by repeat (first|exact trivial|refine ⟨rfl,?_⟩)) [] [] (by repeat (first|exact trivial|refine ⟨rfl,?_⟩)) (fun a=>[(7,.int .i64 (a.1:Nat)),(5,.bool true)]) [(2,_),(3,_)] (fun _=>[]) [] (fun a=>a.2) (fun a=>a.1≤t.gs.length∧(∀ b':Bid,b'.1 < h.clk→a.2.at_ b'=h.at_ b')∧a.2.lp=h.lp∧h.clk≤a.2.clk) (fun a=>t.gs.length - a.1) (by decide) (0,_) (by refine ⟨Nat.zero_le _,fun _ _=>rfl,rfl,by simp only[go_sem];omega⟩) (by (try simp only[go_sem]);repeat' (first|exact trivial|refine And.intro ?_ ?_|rfl|(simp (disch:=omega) only[go_sem,if_yes,if_no,if_no];rfl)|(simp (disch:=omega) only[go_sem,if_yes,if_no,if_no]))) (by (try simp only[go_sem]);repeat' (first|exact trivial|refine And.intro ?_ ?_|rfl|(simp (disch:=omega) only[go_sem,if_yes,if_no,if_no];rfl)|(simp (disch:=omega) only[go_sem,if_yes,if_no,if_no]))) (HOld.refl _) ?_
 rintro ⟨i,g⟩ c2 ⟨hi1,i2,i3,i4⟩ hc2
 dsimp only at hi1 i2 i3 i4 hc2
 simp only[go_sem]
 by_cases hi:i < t.gs.length
 case pos =>
  have k31g:=c24s (gp t.gs i).path (by have:=hl.p i hi;omega)
  repeat' (first|refine st_seq_reg rfl (by first|(simp only[go_sem,Lm,decide_true];rfl)|rfl) (by first|(simp only[go_sem,Lm,decide_true];rfl)|rfl) ?_|refine st_reg rfl (by first|(simp only[go_sem,Lm,decide_true];rfl)|rfl) (by first|(simp only[go_sem,Lm,decide_true];rfl)|rfl) ?_|refine st_seq_draw rfl (by first|(simp only[go_sem,Lm,decide_true];rfl)|rfl) (by first|(simp only[go_sem,Lm,decide_true];rfl)|rfl) ?_|refine st_op ?_|refine st_det rfl (by simp (disch:=omega) only[go_sem,wr_i64,Lm,decide_true];rfl) ?_|refine st_dop rfl ?_|refine st_loc rfl (by simp (disch:=omega) only[go_sem,wr_i64,Lm,decide_true];rfl) ?_|refine st_heap rfl (by simp (disch:=omega) only[go_sem,wr_i64,Lm,decide_true];rfl) ?_|refine st_store (by simp (disch:=omega) only[go_sem,wr_i64,Lm,decide_true];rfl) ?_|(refine st_pureE (by first|(simp (disch:=omega) only[go_sem,Lm,decide_true];rfl)|rfl) rfl (k31g) (by first|(simp only[go_sem,Lm,decide_true];rfl)|rfl) (by intro n;first|(simp (disch:=omega) only[go_sem];rfl)|rfl) ?_;intro n hn)|refine st_gT rfl rfl rfl ?_|(refine st_condS rfl ?_ ?_ <;> intro hg <;> (try simp only[dcT,dcF,bnT,bnF] at hg))|refine st_nil ?_|refine st_dnil ?_|refine st_tN ?_|refine st_seq ?_|refine st_block ?_|refine st_skip ?_|refine st_exit ?_|refine st_ret ?_|refine st_tE ?_|refine st_bN ?_|refine st_bH ?_)
  all_goals try (exfalso;omega)
  have nbo:∀ b':Bid,b'.1 < h.clk→¬ b'=(c2+1,8):=fun b' hb'=>ne_fst hb' (by show h.clk≤c2+1;omega)
  refine ⟨(i+1,_),(by refine ⟨by show i+1≤_;omega,fun b' hb'=>by simp only[go_sem,if_neg (nbo b' hb')];exact i2 b' hb',i3,by simp only[go_sem];omega⟩),by show t.gs.length - (i+1) < t.gs.length - i;omega,(by repeat' (first|exact trivial|refine And.intro ?_ ?_|rfl|(simp (disch:=omega) only[go_sem,if_yes,if_no,if_no];rfl)|(simp (disch:=omega) only[go_sem,if_yes,if_no,if_no]))),(by repeat' (first|exact trivial|refine And.intro ?_ ?_|rfl|(simp (disch:=omega) only[go_sem,if_yes,if_no,if_no];rfl)|(simp (disch:=omega) only[go_sem,if_yes,if_no,if_no]))),rfl,HOld.refl _⟩
 obtain rfl:i=t.gs.length:=by omega
 repeat' (first|refine st_seq_reg rfl (by first|(simp only[go_sem,Lm];rfl)|rfl) (by first|(simp only[go_sem,Lm];rfl)|rfl) ?_|refine st_reg rfl (by first|(simp only[go_sem,Lm];rfl)|rfl) (by first|(simp only[go_sem,Lm];rfl)|rfl) ?_|refine st_seq_draw rfl (by first|(simp only[go_sem,Lm];rfl)|rfl) (by first|(simp only[go_sem,Lm];rfl)|rfl) ?_|refine st_op ?_|refine st_det rfl (by simp (disch:=omega) only[go_sem,wr_i64,Lm];rfl) ?_|refine st_dop rfl ?_|refine st_loc rfl (by simp (disch:=omega) only[go_sem,wr_i64,Lm];rfl) ?_|refine st_heap rfl (by simp (disch:=omega) only[go_sem,wr_i64,Lm];rfl) ?_|refine st_store (by simp (disch:=omega) only[go_sem,wr_i64,Lm];rfl) ?_|refine st_gT rfl rfl rfl ?_|(refine st_condS rfl ?_ ?_ <;> intro hg <;> (try simp only[dcT,dcF,bnT,bnF] at hg))|refine st_nil ?_|refine st_dnil ?_|refine st_tN ?_|refine st_seq ?_|refine st_block ?_|refine st_skip ?_|refine st_exit ?_|refine st_ret ?_|refine st_tE ?_|refine st_bH ?_)
 all_goals try (exfalso;omega)
 simp (disch:=omega) only[AEnd,Tryz.results14,aresK,fin,go_sem,implies_true,true_and,and_true,List.reverse_cons,List.reverse_nil]
 exact ⟨i2,i3⟩
end Go.Proofs.YtoafigpikgigaaaGreatDoor
