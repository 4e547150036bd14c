/- Contracts of functions that the claim reaches: what each call gives, told in our own logic. Conditions: those of each theorem. -/
import Derived.Test.YthpkmcjiobnpgaaDoorF54
import Derived.Test.YthpkmcjiobnpgaaDoorF12
import Derived.Test.YthpkmcjiobnpgaaDoorF7
import Derived.Test.YthpkmcjiobnpgaaDoorF33
open Nat (reduceEqDiff reduceLeDiff)
open List (length_map)
set_option linter.all false
set_option linter.unusedSimpArgs false
set_option linter.unusedVariables false
namespace Go.Proofs.YthpkmcjiobnpgaaDoor
open Go.Av
attribute [local irreducible] thenA blockA awp awpOps awpD awp1
attribute [local go_sem_proc] Nat.reduceAdd Nat.reduceMul reduceEqDiff Nat.reduceBEq reduceLeDiff
attribute [local go_sem_proc ↓] reduceIte
attribute [local go_sem] if_yes if_no
set_option maxHeartbeats 8000000
set_option maxRecDepth 20000
theorem nr_getD {L:List (Nat × Nat)} {i:Nat} (h:i < L.length):(L.map nr).getD i []=[.int .i64 ((L.getD i (0,0)).1:Nat),.int .i64 ((L.getD i (0,0)).2:Nat)]:=by
 simp [List.getD_eq_getElem?_getD,h,nr]
end Go.Proofs.YthpkmcjiobnpgaaDoor

namespace Go.Proofs.YthpkmcjiobnpgaaDoor
open Go.Av
attribute [local irreducible] thenA blockA awp awpOps awpD awp1
attribute [local go_sem_proc] Nat.reduceAdd Nat.reduceMul reduceEqDiff Nat.reduceBEq reduceLeDiff
attribute [local go_sem_proc ↓] reduceIte
attribute [local go_sem] if_yes if_no
set_option maxHeartbeats 8000000
set_option maxRecDepth 20000
theorem c29s (L:List (Nat × Nat)) (hl:L.length≤1000):Pure Tryd.prog 29 [.lst 2 (L.map nr),.lst 2 (L.map nr)] (fun v=>v=.bool true):=by
 intro h
 refine ACalls.forget (ACalls.of tab mixed Tryd.call29 Tryd.func29 rfl (fi:=⟨31,[],[],none,[(5,[0,0,3,7,0,0,48,112,255,511],[(0,false),(1,false),(2,false),(3,true),(4,false),(5,false),(6,false),(7,true),(8,false),(9,false)])]⟩) rfl rfl (Nat.le_of_ble_eq_true rfl) (by decide) ?_)
 unfold startA
 repeat' (first|refine st_seq_reg rfl (by first|(simp only[go_sem,Lm,decide_true];rfl)|rfl) (by first|(simp only[go_sem,Lm,decide_true];rfl)|rfl) ?_|refine st_reg rfl (by first|(simp only[go_sem,Lm,decide_true];rfl)|rfl) (by first|(simp only[go_sem,Lm,decide_true];rfl)|rfl) ?_|refine st_seq_draw rfl (by first|(simp only[go_sem,Lm,decide_true];rfl)|rfl) (by first|(simp only[go_sem,Lm,decide_true];rfl)|rfl) ?_|refine st_draw rfl (by first|(simp only[go_sem,Lm,decide_true];rfl)|rfl) (by first|(simp only[go_sem,Lm,decide_true];rfl)|rfl) ?_|refine st_op ?_|refine st_det rfl (by simp (disch:=omega) only[go_sem,wr_i64,Lm,decide_true];rfl) ?_|refine st_dop rfl ?_|refine st_gT rfl rfl rfl ?_|refine st_gF rfl rfl rfl ?_|refine st_dgT rfl rfl rfl rfl ?_|refine st_dgF rfl rfl rfl ?_|(refine st_gS rfl rfl ?_ ?_ <;> intro hg <;> (try simp only[dcT,dcF,bnT,bnF] at hg))|(refine st_dgS rfl rfl ?_ ?_ <;> intro hg <;> (try simp only[dcT,dcF,bnT,bnF] at hg))|refine st_condT rfl ?_|refine st_condF rfl ?_|(refine st_condS rfl ?_ ?_ <;> intro hg <;> (try simp only[dcT,dcF,bnT,bnF] at hg))|refine st_nil ?_|refine st_dnil ?_|refine st_tN ?_|refine st_seq ?_|refine st_block ?_|refine st_skip ?_|refine st_exit ?_|refine st_ret ?_|refine st_tE ?_|refine st_tR ?_|refine st_bN ?_|refine st_bR ?_|refine st_bH ?_|refine st_bM rfl ?_)
 refine st_loopC (α:=Nat) tab mixed [] [] (by repeat (first|exact trivial|refine ⟨rfl,?_⟩)) [] [] (by repeat (first|exact trivial|refine ⟨rfl,?_⟩)) (fun i=>[(6,.int .i64 (i:Nat)),(5,.bool true)]) [(0,_),(1,_)] (fun _=>[]) [] (fun i=>i≤L.length) (fun i=>L.length - i) (by decide) 0 (Nat.zero_le _) (by (try simp only[go_sem]);repeat' (first|exact trivial|refine And.intro ?_ ?_|rfl|(simp (disch:=omega) only[go_sem,if_yes,if_no,if_no];rfl)|(simp (disch:=omega) only[go_sem,if_yes,if_no,if_no]))) (by (try simp only[go_sem]);repeat' (first|exact trivial|refine And.intro ?_ ?_|rfl|(simp (disch:=omega) only[go_sem,if_yes,if_no,if_no];rfl)|(simp (disch:=omega) only[go_sem,if_yes,if_no,if_no]))) (by first|(simp only[go_sem];rfl)|rfl) (by intro n;simp only[go_sem];rfl) ?_
 intro i c i1 hc
 simp only[go_sem]
 repeat' (first|refine st_seq_reg rfl (by first|(simp only[go_sem,Lm,nr_getD];rfl)|rfl) (by first|(simp only[go_sem,Lm,nr_getD];rfl)|rfl) ?_|refine st_reg rfl (by first|(simp only[go_sem,Lm,nr_getD];rfl)|rfl) (by first|(simp only[go_sem,Lm,nr_getD];rfl)|rfl) ?_|refine st_seq_draw rfl (by first|(simp only[go_sem,Lm,nr_getD];rfl)|rfl) (by first|(simp only[go_sem,Lm,nr_getD];rfl)|rfl) ?_|refine st_draw rfl (by first|(simp only[go_sem,Lm,nr_getD];rfl)|rfl) (by first|(simp only[go_sem,Lm,nr_getD];rfl)|rfl) ?_|refine st_op ?_|refine st_det rfl (by simp (disch:=omega) only[go_sem,wr_i64,Lm,nr_getD];rfl) ?_|refine st_dop rfl ?_|refine st_gT rfl rfl rfl ?_|refine st_gF rfl rfl rfl ?_|refine st_dgT rfl rfl rfl rfl ?_|refine st_dgF rfl rfl rfl ?_|(refine st_gS rfl rfl ?_ ?_ <;> intro hg <;> (try simp only[dcT,dcF,bnT,bnF] at hg))|(refine st_dgS rfl rfl ?_ ?_ <;> intro hg <;> (try simp only[dcT,dcF,bnT,bnF] at hg))|refine st_condT rfl ?_|refine st_condF rfl ?_|(refine st_condS rfl ?_ ?_ <;> intro hg <;> (try simp only[dcT,dcF,bnT,bnF] at hg))|refine st_nil ?_|refine st_dnil ?_|refine st_tN ?_|refine st_seq ?_|refine st_block ?_|refine st_skip ?_|refine st_exit ?_|refine st_ret ?_|refine st_tE ?_|refine st_tR ?_|refine st_bN ?_|refine st_bR ?_|refine st_bH ?_|refine st_bM rfl ?_)
 ·refine ⟨i+1,(by omega),by omega,(by repeat' (first|exact trivial|refine And.intro ?_ ?_|rfl|(simp (disch:=omega) only[go_sem,if_yes,if_no,if_no];rfl)|(simp (disch:=omega) only[go_sem,if_yes,if_no,if_no]))),(by repeat' (first|exact trivial|refine And.intro ?_ ?_|rfl|(simp (disch:=omega) only[go_sem,if_yes,if_no,if_no];rfl)|(simp (disch:=omega) only[go_sem,if_yes,if_no,if_no]))),rfl,(by first|exact HOld.of _ (by omega)|exact HOld.put _ _ _ (by omega))⟩
 ·simp (disch:=omega) only[AEnd,Tryd.results29,aresK,fin,go_sem,implies_true,true_and,and_true,List.reverse_cons,List.reverse_nil]
end Go.Proofs.YthpkmcjiobnpgaaDoor

namespace Go.Proofs.YthpkmcjiobnpgaaDoor
open Go.Av
attribute [local irreducible] thenA blockA awp awpOps awpD awp1
attribute [local go_sem_proc] Nat.reduceAdd Nat.reduceMul reduceEqDiff Nat.reduceBEq reduceLeDiff
attribute [local go_sem_proc ↓] reduceIte
attribute [local go_sem] if_yes if_no
set_option maxHeartbeats 8000000
set_option maxRecDepth 20000
def stopR (f:Fl) (r:List Hu) (v:AV):Prop :=
 if bothE f r ≠ 0 then v=.tup [.int .i64 0,.int .i64 (bothE f r)] else
 ∃ k:Int,v=.tup [.int .i64 k,.int .i64 0]∧((k = -1∧∀ j,j < r.length→pV f 0 0 (hu r j)=1) ∨ ∃ j:Nat,j < r.length∧k=j∧pV f 0 0 (hu r j) ≠ 1∧∀ i,i < j→pV f 0 0 (hu r i)=1)
theorem c25 (f:Fl) (r:List Hu):Pure Tryd.prog 25 [f.av,.lst 3 (r.map Hu.row)] (stopR f r):=by
 intro h
 refine ACalls.forget ?_
 have hne0:∀ b':Nat × Nat,b'.1 < h.clk→¬ b'=(h.clk,4):=fun b' hb' e=>by rw [e] at hb';exact absurd hb' (Nat.lt_irrefl _)
 have hne1:∀ b':Nat × Nat,b'.1 < h.clk→¬ b'=(h.clk,5):=fun b' hb' e=>by rw [e] at hb';exact absurd hb' (Nat.lt_irrefl _)
 refine ACalls.of tab mixed Tryd.call25 Tryd.func25 rfl (fi:=⟨24,[],[2],none,[]⟩) rfl rfl (Nat.le_of_ble_eq_true rfl) (by decide) ?_
 unfold startA
 simp only[go_sem]
 repeat' (first|refine st_seq_reg rfl (by first|(simp only[go_sem];rfl)|rfl) (by first|(simp only[go_sem];rfl)|rfl) ?_|refine st_reg rfl (by first|(simp only[go_sem];rfl)|rfl) (by first|(simp only[go_sem];rfl)|rfl) ?_|refine st_op ?_|refine st_det rfl (by simp (disch:=omega) only[go_sem,wr_i64];rfl) ?_|refine st_loc rfl (by simp (disch:=omega) only[go_sem,wr_i64];rfl) ?_|refine st_heap rfl (by simp (disch:=omega) only[go_sem,wr_i64];rfl) ?_|refine st_store (by simp (disch:=omega) only[go_sem,wr_i64];rfl) ?_|(refine st_pureE (by first|(simp (disch:=omega) only[go_sem];rfl)|rfl) rfl (c36 f r) (by first|(simp only[go_sem];rfl)|rfl) (by intro n;first|(simp (disch:=omega) only[go_sem];rfl)|rfl) ?_;intro n hn)|(refine st_pureE (by first|(simp (disch:=omega) only[go_sem];rfl)|rfl) rfl (c37 f 0 0 r) (by first|(simp only[go_sem];rfl)|rfl) (by intro n;first|(simp (disch:=omega) only[go_sem];rfl)|rfl) ?_;intro n hn)|refine st_condT rfl ?_|refine st_condF rfl ?_|(refine st_condS rfl ?_ ?_ <;> intro hg <;> (try simp only[dcT,dcF,bnT,bnF] at hg))|refine st_nil ?_|refine st_tN ?_|refine st_seq ?_|refine st_block ?_|refine st_skip ?_|refine st_exit ?_|refine st_ret ?_|refine st_tE ?_|refine st_tR ?_|refine st_bN ?_|refine st_bR ?_|refine st_bH ?_|refine st_bM rfl ?_|refine st_noN ?_|refine st_noR ?_|refine st_noE ?_|refine st_label ?_|refine st_scope tab mixed (by decide) ?_)
 ·simp (disch:=omega) only[AEnd,Tryd.results25,aresK,fin,go_sem,implies_true,true_and,and_true,List.reverse_cons,List.reverse_nil]
  refine ⟨fun b' hb'=>?_,by simp [stopR,hg]⟩
  simp only[hne0 b' hb',hne1 b' hb',if_false,↓reduceIte]
 have hb:bothE f r=0:=by omega
 obtain ⟨hf,hr,hl,_,_⟩:=bothOk hb
 have hS:∀ v,(∃ k:Int,v=.tup [.int .i64 k,.int .i64 0]∧((k = -1∧∀ j,j < r.length→pV f 0 0 (hu r j)=1) ∨ ∃ j:Nat,j < r.length∧k=j∧pV f 0 0 (hu r j) ≠ 1∧∀ i,i < j→pV f 0 0 (hu r i)=1))→stopR f r v:=fun v hv=>by unfold stopR;rw [if_neg (by omega)];exact hv
 refine st_rangeFunc rfl (by simp only[go_sem];rfl) (fun l D R hR hlp=>?_)
 simp only[go_sem] at hlp
 let J:AH→Prop:=fun g=>(∀ b':Bid,b'.1 < h.clk→g.at_ b'=h.at_ b')∧(∀ l',l' ≠ l→g.lp l'=h.lp l')
 let I:Nat→AH→Prop:=fun i g=>g.lp l=some R∧J g∧g.at_ (h.clk,4)=some ⟨1,[[.int .i64 0]]⟩∧g.at_ (h.clk,5)=some ⟨1,[[.int .i64 0]]⟩∧∀ j,j < i→pV f 0 0 (hu r j)=1
 let E:AH→Prop:=fun g=>g.lp l=some (R.stop .ret)∧J g∧∃ j:Nat,j < r.length∧g.at_ (h.clk,4)=some ⟨1,[[.int .i64 j]]⟩∧g.at_ (h.clk,5)=some ⟨1,[[.int .i64 0]]⟩∧pV f 0 0 (hu r j) ≠ 1∧∀ i,i < j→pV f 0 0 (hu r i)=1
 refine (c58 f 0 0 r l hf (by omega) (by omega) hr (by omega) I E ?_ ?_ ?_ _ ?_).mono ?_
 ·exact fun i g n h _=>h
 ·exact fun g n h _=>h
 ·rintro i g hi ⟨h1,⟨h2,h3⟩,h4,h4',h5⟩
  refine AYields.canon tab mixed [] [2] [] hR h1 rfl (by intro p hp;simp at hp;rcases hp with rfl|rfl <;> decide) [(19,.int .i64 i),(20,.int .i64 (pV f 0 0 (hu r i))),(4,.ptr (h.clk,4) 0 0),(5,.ptr (h.clk,5) 0 0)] ⟨rfl,rfl,rfl,rfl,trivial⟩ rfl rfl ?_
  simp only[go_sem]
  repeat' (first|refine st_seq_reg rfl (by first|(simp only[go_sem];rfl)|rfl) (by first|(simp only[go_sem];rfl)|rfl) ?_|refine st_reg rfl (by first|(simp only[go_sem];rfl)|rfl) (by first|(simp only[go_sem];rfl)|rfl) ?_|refine st_op ?_|refine st_det rfl (by simp (disch:=omega) only[go_sem,wr_i64];rfl) ?_|refine st_loc rfl (by simp (disch:=omega) only[go_sem,wr_i64];rfl) ?_|refine st_heap rfl (by simp (disch:=omega) only[go_sem,wr_i64];rfl) ?_|refine st_store (by simp (disch:=omega) only[go_sem,wr_i64];rfl) ?_|refine st_condT rfl ?_|refine st_condF rfl ?_|(refine st_condS rfl ?_ ?_ <;> intro hg <;> (try simp only[dcT,dcF,bnT,bnF] at hg))|refine st_nil ?_|refine st_tN ?_|refine st_seq ?_|refine st_block ?_|refine st_skip ?_|refine st_exit ?_|refine st_ret ?_|refine st_tE ?_|refine st_tR ?_|refine st_bN ?_|refine st_bR ?_|refine st_bH ?_|refine st_bM rfl ?_|refine st_noN ?_|refine st_noR ?_|refine st_noE ?_|refine st_label ?_|refine st_scope tab mixed (by decide) ?_)
  refine ⟨h1,?_⟩
  dsimp only
  repeat' (first|refine st_seq_reg rfl (by first|(simp only[go_sem,h4,h4'];rfl)|rfl) (by first|(simp only[go_sem,h4,h4'];rfl)|rfl) ?_|refine st_reg rfl (by first|(simp only[go_sem,h4,h4'];rfl)|rfl) (by first|(simp only[go_sem,h4,h4'];rfl)|rfl) ?_|refine st_op ?_|refine st_det rfl (by simp (disch:=omega) only[go_sem,wr_i64,h4,h4'];rfl) ?_|refine st_loc rfl (by simp (disch:=omega) only[go_sem,wr_i64,h4,h4'];rfl) ?_|refine st_heap rfl (by simp (disch:=omega) only[go_sem,wr_i64,h4,h4'];rfl) ?_|refine st_store (by simp (disch:=omega) only[go_sem,wr_i64,h4,h4'];rfl) ?_|refine st_condT rfl ?_|refine st_condF rfl ?_|(refine st_condS rfl ?_ ?_ <;> intro hg <;> (try simp only[dcT,dcF,bnT,bnF] at hg))|refine st_nil ?_|refine st_tN ?_|refine st_seq ?_|refine st_block ?_|refine st_skip ?_|refine st_exit ?_|refine st_ret ?_|refine st_tE ?_|refine st_tR ?_|refine st_bN ?_|refine st_bR ?_|refine st_bH ?_|refine st_bM rfl ?_|refine st_noN ?_|refine st_noR ?_|refine st_noE ?_|refine st_label ?_|refine st_scope tab mixed (by decide) ?_)
  ·refine ⟨by simp only[go_sem],.inr ⟨rfl,lpSet_same _ _ _,⟨fun b' hb'=>?_,fun l' hl'=>?_⟩,i,hi,?_,?_,hg,h5⟩⟩
   ·simp only[go_sem];rw [if_neg (hne1 b' hb'),if_neg (hne0 b' hb')];exact h2 b' hb'
   ·rw [lpSet_ne _ _ hl'];simp only[go_sem];rw [lpSet_ne _ _ hl'];exact h3 l' hl'
   ·simp (disch:=omega) only[go_sem,↓reduceIte,reduceEqDiff,reduceLeDiff] <;> rfl
   ·simp (disch:=omega) only[go_sem,↓reduceIte,reduceEqDiff,reduceLeDiff] <;> rfl
  ·refine ⟨by simp only[go_sem],.inl ⟨rfl,lpSet_same _ _ _,⟨fun b' hb'=>h2 b' hb',fun l' hl'=>?_⟩,h4,h4',fun j hj=>?_⟩⟩
   ·rw [lpSet_ne _ _ hl'];simp only[go_sem];rw [lpSet_ne _ _ hl'];exact h3 l' hl'
   ·by_cases e:j=i
    ·rw [e];exact Decidable.of_not_not hg
    ·exact h5 j (by omega)
 ·exact ⟨lpSet_same _ _ _,⟨fun b' hb'=>by simp only[go_sem];rw [if_neg (hne1 b' hb'),if_neg (hne0 b' hb')],fun l' hl'=>by rw [lpSet_ne _ _ hl'];rfl⟩,by simp (disch:=omega) only[go_sem,↓reduceIte,reduceEqDiff,reduceLeDiff] <;> rfl,by simp (disch:=omega) only[go_sem,↓reduceIte,reduceEqDiff,reduceLeDiff] <;> rfl,fun j hj=>absurd hj (Nat.not_lt_zero _)⟩
 ·have hlp2:∀ h':AH,(∀ l',l' ≠ l→h'.lp l'=h.lp l')→(h'.lpSet l none).lp=h.lp:=by
   intro h' h3
   funext l'
   by_cases e:l'=l
   ·rw [e,lpSet_same,hlp]
   ·rw [lpSet_ne _ _ e];exact h3 l' e
  rintro v h' (⟨h1,⟨h2,h3⟩,h4,h4',h5⟩|⟨h1,⟨h2,h3⟩,j,hj,h4,h4',h5,h6⟩)
  ·refine .inl ⟨h1,st_bN (st_tN ?_)⟩
   repeat' (first|refine st_seq_reg rfl (by first|(simp only[go_sem,h4,h4'];rfl)|rfl) (by first|(simp only[go_sem,h4,h4'];rfl)|rfl) ?_|refine st_reg rfl (by first|(simp only[go_sem,h4,h4'];rfl)|rfl) (by first|(simp only[go_sem,h4,h4'];rfl)|rfl) ?_|refine st_op ?_|refine st_det rfl (by simp (disch:=omega) only[go_sem,wr_i64,h4,h4'];rfl) ?_|refine st_loc rfl (by simp (disch:=omega) only[go_sem,wr_i64,h4,h4'];rfl) ?_|refine st_heap rfl (by simp (disch:=omega) only[go_sem,wr_i64,h4,h4'];rfl) ?_|refine st_store (by simp (disch:=omega) only[go_sem,wr_i64,h4,h4'];rfl) ?_|refine st_condT rfl ?_|refine st_condF rfl ?_|(refine st_condS rfl ?_ ?_ <;> intro hg <;> (try simp only[dcT,dcF,bnT,bnF] at hg))|refine st_nil ?_|refine st_tN ?_|refine st_seq ?_|refine st_block ?_|refine st_skip ?_|refine st_exit ?_|refine st_ret ?_|refine st_tE ?_|refine st_tR ?_|refine st_bN ?_|refine st_bR ?_|refine st_bH ?_|refine st_bM rfl ?_|refine st_noN ?_|refine st_noR ?_|refine st_noE ?_|refine st_label ?_|refine st_scope tab mixed (by decide) ?_)
   simp (disch:=omega) only[AEnd,Tryd.results25,aresK,fin,go_sem,implies_true,true_and,and_true,List.reverse_cons,List.reverse_nil,hlp2 h' h3]
   refine ⟨fun b' hb'=>?_,hS _ ⟨-1,rfl,.inl ⟨rfl,h5⟩⟩⟩
   rw [if_neg (hne1 b' hb'),if_neg (hne0 b' hb')];exact h2 b' hb'
  ·refine .inr ⟨.ret,h1,ASem.ret (st_bR (st_tR ?_))⟩
   simp (disch:=omega) only[AEnd,Tryd.results25,aresK,fin,go_sem,implies_true,true_and,and_true,List.reverse_cons,List.reverse_nil,hlp2 h' h3,h4,h4']
   exact ⟨h2,hS _ ⟨j,rfl,.inr ⟨j,hj,rfl,h5,h6⟩⟩⟩
end Go.Proofs.YthpkmcjiobnpgaaDoor

namespace Go.Proofs.YthpkmcjiobnpgaaDoor
open Go.Av Go.Txt Go.Lib
attribute [local irreducible] thenA blockA awp awpOps awpD awp1
attribute [local go_sem_proc] Nat.reduceAdd Nat.reduceMul reduceEqDiff Nat.reduceBEq reduceLeDiff
attribute [local go_sem_proc ↓] reduceIte
attribute [local go_sem] if_yes if_no
set_option maxHeartbeats 16000000
set_option maxRecDepth 20000
def FrS (h h':AH) (b:Bid) (k:Blk):Prop:=h.clk≤b.1∧b.1 < h'.clk∧h'.at_ b=some k∧(∀ b':Bid,b'.1 < h.clk→h'.at_ b'=h.at_ b')∧h'.lp=h.lp
theorem c4h (h:AH):ACalls Tryd.prog 4 [] h (fun v h'=>∃ b:Bid,v=.agg [.int .i64 1000,.int .i64 300,.int .i64 200,.int .i64 800,.int .i64 900,.int .i64 4000,.int .i64 500,.int .i64 400,.slc b 7 0 4]∧FrS h h' b ⟨7,(swanF 500).loads.map Ld.row⟩):=by
 refine ACalls.of tab mixed Tryd.call4 Tryd.func4 rfl (fi:=⟨15,[0],[],none,[]⟩) rfl rfl (Nat.le_of_ble_eq_true rfl) (by decide) ?_
 unfold startA
 try simp only[go_sem]
 repeat' (first|refine st_seq_reg rfl (by first|(simp only[go_sem];rfl)|rfl) (by first|(simp only[go_sem];rfl)|rfl) ?_|refine st_reg rfl (by first|(simp only[go_sem];rfl)|rfl) (by first|(simp only[go_sem];rfl)|rfl) ?_|refine st_op ?_|refine st_det rfl (by simp (disch:=omega) only[go_sem,wr_i64];rfl) ?_|refine st_loc rfl (by simp (disch:=omega) only[go_sem,wr_i64];rfl) ?_|refine st_heap rfl (by simp (disch:=omega) only[go_sem,wr_i64];rfl) ?_|refine st_store (by simp (disch:=omega) only[go_sem,wr_i64];rfl) ?_|(refine st_pureE (by first|(simp (disch:=omega) only[go_sem];rfl)|rfl) rfl (c9 _ _) (by first|(simp only[go_sem];rfl)|rfl) (by intro n;first|(simp (disch:=omega) only[go_sem];rfl)|rfl) ?_;intro n hn)|(refine st_pureE (by first|(simp (disch:=omega) only[go_sem];rfl)|rfl) rfl (c14 _) (by first|(simp only[go_sem];rfl)|rfl) (by intro n;first|(simp (disch:=omega) only[go_sem];rfl)|rfl) ?_;intro n hn)|refine st_nil ?_|refine st_tN ?_|refine st_seq ?_|refine st_skip ?_|refine st_ret ?_|refine st_tE ?_|refine st_tR ?_)
 simp (disch:=omega) only[AEnd,Tryd.results4,aresK,fin,go_sem,implies_true,true_and,and_true,List.reverse_cons,List.reverse_nil]
 refine ⟨_,rfl,by dsimp only;omega,by simp only[go_sem];omega,put_same _ _ _,fun b' hb'=>put_ne _ _ (fun e=>by rw [e] at hb';dsimp only at hb';omega),rfl⟩
theorem idx9 {l:List UInt8} {k:IntKind} {i:Int} (h:0≤i∧i < l.length):aindex tt 9 (.str l) (.int k i)=some (.int .u8 (l.getD i.toNat 0).toNat):=by
 show (if 0≤i∧i < l.length then _ else _)=_
 rw [if_pos h]
theorem sL (l:List (List UInt8)):(strs l).length=l.length:=by unfold strs;rw [Lm]
theorem strs_snoc (l:List (List UInt8)) (x:List UInt8):strs (l ++ [x])=strs l ++ [[.str x]]:=by unfold strs;rw [List.map_append];rfl
theorem drop_cut {s:List UInt8} {a i:Nat} (ha:a≤i) (hi:i < s.length):s.drop a=(s.drop a).take (i - a) ++ s.getD i 0 :: s.drop (i+1):=by
 have h1:s.drop a=(s.drop a).take (i - a) ++ (s.drop a).drop (i - a):=(List.take_append_drop _ _).symm
 rw [List.drop_drop,show a+(i - a)=i by omega,List.drop_eq_getElem_cons hi] at h1
 rw [List.getD_eq_getElem?_getD,List.getElem?_eq_getElem hi]
 exact h1
theorem take_cut {s:List UInt8} {a i:Nat} (ha:a≤i) (hi:i < s.length):(s.drop a).take (i+1 - a)=(s.drop a).take (i - a) ++ [s.getD i 0]:=by
 rw [show i+1 - a=(i - a)+1 by omega,List.take_add_one,List.getElem?_drop,show a+(i - a)=i by omega,List.getElem?_eq_getElem hi,List.getD_eq_getElem?_getD,List.getElem?_eq_getElem hi]
 rfl
structure SpS where
 i:Nat
 a:Nat
 v:AV
 ds:List (List UInt8)
 g:AH
theorem c28 (s:List UInt8) (hs:s.length≤1000000):Pure Tryd.prog 28 [.str s] (fun v=>v=.lst 1 (strs (splitL 10 s).dropLast)):=by
 refine Pure.give Tryd.call28 fun h hold=>?_
 refine ACalls.of tab mixed Tryd.call28 Tryd.func28 rfl (fi:=⟨26,[],[21],none,[]⟩) rfl rfl (Nat.le_of_ble_eq_true rfl) (by decide) ?_
 unfold startA
 try simp only[go_sem]
 repeat' (first|refine st_seq_reg rfl (by first|(simp only[go_sem];rfl)|rfl) (by first|(simp only[go_sem];rfl)|rfl) ?_|refine st_reg rfl (by first|(simp only[go_sem];rfl)|rfl) (by first|(simp only[go_sem];rfl)|rfl) ?_|refine st_op ?_|refine st_det rfl (by simp (disch:=omega) only[go_sem,wr_i64];rfl) ?_|refine st_heap rfl (by simp (disch:=omega) only[go_sem,wr_i64];rfl) ?_|refine st_append (by simp (disch:=omega) only[go_sem,wr_i64];rfl) ?_|refine st_condT rfl ?_|refine st_condF rfl ?_|(refine st_condS rfl ?_ ?_ <;> intro hg <;> (try simp only[dcT,dcF,bnT,bnF] at hg))|refine st_nil ?_|refine st_tN ?_|refine st_seq ?_|refine st_block ?_|refine st_skip ?_|refine st_exit ?_|refine st_ret ?_|refine st_tE ?_|refine st_tR ?_|refine st_bN ?_|refine st_bR ?_|refine st_bH ?_|refine st_bM rfl ?_)
 refine st_loopH (α:=SpS) tab mixed [] [] (by repeat (first|exact trivial|refine ⟨rfl,?_⟩)) [] [] (by repeat (first|exact trivial|refine ⟨rfl,?_⟩)) (fun a=>[(5,.int .i64 (a.i:Nat)),(4,.int .i64 (a.a:Nat)),(3,a.v)]) [(0,_),(2,_)] (fun _=>[]) [] (fun a=>a.g) (fun a=>(a.i≤s.length∧a.a≤a.i∧a.ds ++ splitL 10 (s.drop a.a)=splitL 10 s∧(10:UInt8) ∉ (s.drop a.a).take (a.i - a.a))∧a.ds.length≤a.i∧SlA h.clk a.g a.v 1 (strs a.ds)∧(∀ b':Bid,b'.1 < h.clk→a.g.at_ b'=h.at_ b')∧a.g.lp=h.lp∧h.clk≤a.g.clk) (fun a=>s.length - a.i) (by decide) ⟨0,0,.nils,[],_⟩ (by exact ⟨⟨Nat.zero_le _,Nat.le_refl _,rfl,by simp⟩,Nat.zero_le _,.inl ⟨rfl,rfl⟩,fun _ _=>rfl,rfl,by (try simp only[go_sem]);omega⟩) (by (try simp only[go_sem]);repeat' (first|exact trivial|refine And.intro ?_ ?_|rfl|(simp (disch:=omega) only[go_sem,if_yes,if_no,if_no];rfl)|(simp (disch:=omega) only[go_sem,if_yes,if_no,if_no]))) (by (try simp only[go_sem]);repeat' (first|exact trivial|refine And.intro ?_ ?_|rfl|(simp (disch:=omega) only[go_sem,if_yes,if_no,if_no];rfl)|(simp (disch:=omega) only[go_sem,if_yes,if_no,if_no]))) (HOld.refl _) ?_
 rintro ⟨i,a,v,ds,g⟩ c ⟨⟨hi,hai,hsp,hno⟩,hdl,hS,hat,hlp,hck⟩ hc
 dsimp only at hi hai hsp hno hdl hS hat hlp hck hc
 simp only[go_sem]
 have hnc:=hS.noL
 by_cases hil:i < s.length
 case neg =>
  obtain rfl:i=s.length:=by omega
  have hpc:(s.drop a).take (s.length - a)=s.drop a:=List.take_of_length_le (by rw [List.length_drop];exact Nat.le_refl _)
  rw [hpc] at hno
  rw [splitL_none hno] at hsp
  have hds:ds=(splitL 10 s).dropLast:=by rw [← hsp,List.dropLast_concat]
  rw [hds] at hS
  repeat' (first|refine st_seq_reg rfl (by first|(simp only[go_sem,hnc];rfl)|rfl) (by first|(simp only[go_sem,hnc];rfl)|rfl) ?_|refine st_reg rfl (by first|(simp only[go_sem,hnc];rfl)|rfl) (by first|(simp only[go_sem,hnc];rfl)|rfl) ?_|refine st_op ?_|refine st_det rfl (by simp (disch:=omega) only[go_sem,wr_i64,hnc];rfl) ?_|refine st_heap rfl (by simp (disch:=omega) only[go_sem,wr_i64,hnc];rfl) ?_|refine st_append (by simp (disch:=omega) only[go_sem,wr_i64,hnc];rfl) ?_|refine st_condT rfl ?_|refine st_condF rfl ?_|(refine st_condS rfl ?_ ?_ <;> intro hg <;> (try simp only[dcT,dcF,bnT,bnF] at hg))|refine st_nil ?_|refine st_tN ?_|refine st_seq ?_|refine st_block ?_|refine st_skip ?_|refine st_exit ?_|refine st_ret ?_|refine st_tE ?_|refine st_tR ?_|refine st_bN ?_|refine st_bR ?_|refine st_bH ?_|refine st_bM rfl ?_)
  all_goals try (exfalso;omega)
  simp (disch:=omega) only[AEnd,Tryd.results28,aresK,fin,go_sem,implies_true,true_and,and_true,List.reverse_cons,List.reverse_nil]
  exact ⟨hnc,hat,hlp,SlA.ans (R:=fun v=>v=.lst 1 (strs (splitL 10 s).dropLast)) hS rfl⟩
 by_cases hb:s.getD i 0=10
 ·have hb':(s.getD i 0).toNat=10:=by rw [hb];rfl
  obtain ⟨q,hq⟩:∃ q,q=(s.drop a).take (i - a):=⟨_,rfl⟩
  have hcut:=drop_cut hai hil
  rw [hb,← hq] at hcut
  rw [← hq] at hno
  rw [hcut,splitL_app hno] at hsp
  repeat' (first|refine st_seq_reg rfl (by first|(simp only[go_sem,hnc,sL,idx9,Int.toNat_natCast,hb',← hq];rfl)|rfl) (by first|(simp only[go_sem,hnc,sL,idx9,Int.toNat_natCast,hb',← hq];rfl)|rfl) ?_|refine st_reg rfl (by first|(simp only[go_sem,hnc,sL,idx9,Int.toNat_natCast,hb',← hq];rfl)|rfl) (by first|(simp only[go_sem,hnc,sL,idx9,Int.toNat_natCast,hb',← hq];rfl)|rfl) ?_|refine st_op ?_|refine st_det rfl (by simp (disch:=omega) only[go_sem,wr_i64,hnc,sL,idx9,Int.toNat_natCast,hb',← hq];rfl) ?_|refine st_heap rfl (by simp (disch:=omega) only[go_sem,wr_i64,hnc,sL,idx9,Int.toNat_natCast,hb',← hq];rfl) ?_|refine st_append (by simp (disch:=omega) only[go_sem,wr_i64,hnc,sL,idx9,Int.toNat_natCast,hb',← hq];rfl) ?_|(refine st_appS (by intro h id x y;simp only[go_sem];rfl) rfl (by simp only[go_sem,hnc,sL,idx9,Int.toNat_natCast,hb',← hq];rfl) (by first|(simp only[go_sem,hnc,sL,idx9,Int.toNat_natCast,hb',← hq];rfl)|rfl) (by decide) hS (fun _ _ _=>rfl) (by omega) (by simp only[Lm,List.length_cons,List.length_nil,big,hnc,sL,idx9,Int.toNat_natCast,hb',← hq];omega) (by omega) (by omega) ?_;intro v' g' hA)|refine st_condT rfl ?_|refine st_condF rfl ?_|(refine st_condS rfl ?_ ?_ <;> intro hg <;> (try simp only[dcT,dcF,bnT,bnF] at hg))|refine st_nil ?_|refine st_tN ?_|refine st_seq ?_|refine st_block ?_|refine st_skip ?_|refine st_exit ?_|refine st_ret ?_|refine st_tE ?_|refine st_tR ?_|refine st_bN ?_|refine st_bR ?_|refine st_bH ?_|refine st_bM rfl ?_)
  all_goals try (exfalso;omega)
  refine ⟨⟨i+1,i+1,v',ds ++ [q],_⟩,(by exact ⟨⟨by show i+1≤s.length;omega,Nat.le_refl _,by rw [List.append_assoc];exact hsp,by simp⟩,by simp;omega,by rw [strs_snoc];exact hA.sl.to (fun _ _ _ _ _=>rfl) (by (try simp only[go_sem]);omega),fun b' hb'=>(hA.old b' hb').trans (hat b' hb'),hA.lp.trans hlp,by (try simp only[go_sem]);omega⟩),(by show s.length - (i+1) < s.length - i;omega),(by repeat' (first|exact trivial|refine And.intro ?_ ?_|rfl|(simp (disch:=omega) only[go_sem,if_yes,if_no,if_no];rfl)|(simp (disch:=omega) only[go_sem,if_yes,if_no,if_no]))),(by repeat' (first|exact trivial|refine And.intro ?_ ?_|rfl|(simp (disch:=omega) only[go_sem,if_yes,if_no,if_no];rfl)|(simp (disch:=omega) only[go_sem,if_yes,if_no,if_no]))),rfl,HOld.refl _⟩
 have hb':¬ (s.getD i 0).toNat=10:=fun q=>hb (UInt8.toNat_inj.1 q)
 have hno2:(10:UInt8) ∉ (s.drop a).take (i+1 - a):=by
  rw [take_cut hai hil]
  simp only[List.mem_append,List.mem_singleton,not_or]
  exact ⟨hno,fun e=>hb e.symm⟩
 repeat' (first|refine st_seq_reg rfl (by first|(simp only[go_sem,hnc,sL,idx9,Int.toNat_natCast];rfl)|rfl) (by first|(simp only[go_sem,hnc,sL,idx9,Int.toNat_natCast];rfl)|rfl) ?_|refine st_reg rfl (by first|(simp only[go_sem,hnc,sL,idx9,Int.toNat_natCast];rfl)|rfl) (by first|(simp only[go_sem,hnc,sL,idx9,Int.toNat_natCast];rfl)|rfl) ?_|refine st_op ?_|refine st_det rfl (by simp (disch:=omega) only[go_sem,wr_i64,hnc,sL,idx9,Int.toNat_natCast];rfl) ?_|refine st_heap rfl (by simp (disch:=omega) only[go_sem,wr_i64,hnc,sL,idx9,Int.toNat_natCast];rfl) ?_|refine st_append (by simp (disch:=omega) only[go_sem,wr_i64,hnc,sL,idx9,Int.toNat_natCast];rfl) ?_|refine st_condT rfl ?_|refine st_condF rfl ?_|(refine st_condS rfl ?_ ?_ <;> intro hg <;> (try simp only[dcT,dcF,bnT,bnF] at hg))|refine st_nil ?_|refine st_tN ?_|refine st_seq ?_|refine st_block ?_|refine st_skip ?_|refine st_exit ?_|refine st_ret ?_|refine st_tE ?_|refine st_tR ?_|refine st_bN ?_|refine st_bR ?_|refine st_bH ?_|refine st_bM rfl ?_)
 all_goals try (exfalso;omega)
 refine ⟨⟨i+1,a,v,ds,_⟩,(by exact ⟨⟨by show i+1≤s.length;omega,by show a≤i+1;omega,hsp,hno2⟩,by show ds.length≤i+1;omega,hS.to (fun _ _ _ _ _=>rfl) (by (try simp only[go_sem]);omega),hat,hlp,by (try simp only[go_sem]);omega⟩),(by show s.length - (i+1) < s.length - i;omega),(by repeat' (first|exact trivial|refine And.intro ?_ ?_|rfl|(simp (disch:=omega) only[go_sem,if_yes,if_no,if_no];rfl)|(simp (disch:=omega) only[go_sem,if_yes,if_no,if_no]))),(by repeat' (first|exact trivial|refine And.intro ?_ ?_|rfl|(simp (disch:=omega) only[go_sem,if_yes,if_no,if_no];rfl)|(simp (disch:=omega) only[go_sem,if_yes,if_no,if_no]))),rfl,HOld.refl _⟩
end Go.Proofs.YthpkmcjiobnpgaaDoor

namespace Go.Proofs.YthpkmcjiobnpgaaDoor
open Go.Av Go.Txt Go.Lib
attribute [local irreducible] thenA blockA awp awpOps awpD awp1
attribute [local go_sem_proc] Nat.reduceAdd Nat.reduceMul reduceEqDiff Nat.reduceBEq reduceLeDiff
attribute [local go_sem_proc ↓] reduceIte
attribute [local go_sem] if_yes if_no
set_option maxHeartbeats 16000000
set_option maxRecDepth 20000
def flB:Fl:={ swanF 500 with front:=800 }
def flF:Fl:=⟨1000,300,200,800,900,4000,500,400,[⟨199,500,600,450,500,1,0⟩,⟨700,1000,1000,380,380,2,5000⟩,⟨500,100,200,300,350,3,3000⟩,⟨600,50,50,400,520,4,0⟩]⟩
def flW:Fl:=⟨1000,300,200,800,900,4000,500,400,[⟨300,500,600,450,500,1,0⟩,⟨700,1000,1000,380,380,2,5000⟩,⟨500,100,200,300,350,3,3000⟩,⟨600,50,50,400,520,4,1⟩]⟩
theorem x_0:chkE (swanF 500)=0:=by decide +kernel
theorem x_9:chkE (swanF 900)=0:=by decide +kernel
theorem x_95:chkE (swanF 950)=0:=by decide +kernel
theorem x_B:chkE flB=9:=by decide +kernel
theorem x_F:chkE flF=2:=by decide +kernel
theorem x_W:chkE flW=1:=by decide +kernel
theorem k7:Pure Tryd.prog 7 [(swanF 500).av] (fun v=>v=.tup [.agg [.int .i64 5650,.int .i64 5850],.int .i64 0]):=by
 have h:=c7 (swanF 500) x_0
 rw [show wL oneA (swanF 500) 0 0=5650 by decide +kernel,show wH oneA (swanF 500) 0 0=5850 by decide +kernel] at h
 exact h
theorem k8:Pure Tryd.prog 8 [(swanF 500).av] (fun v=>v=.tup [.agg [.int .i64 450,.int .i64 520],.int .i64 0]):=by
 have h:=c8 (swanF 500) x_0
 rw [show tl (swanF 500).high (swanF 500).loads=450 by decide +kernel,show th (swanF 500).high (swanF 500).loads=520 by decide +kernel] at h
 exact h
theorem k11a:Pure Tryd.prog 11 [(swanF 500).av] (fun v=>v=.tup [.int .i64 1,.int .i64 0]):=by
 have h:=c11 (swanF 500) x_0
 rw [show sV (swanF 500) 0 0=1 by decide +kernel] at h
 exact h
theorem k11b:Pure Tryd.prog 11 [(swanF 900).av] (fun v=>v=.tup [.int .i64 3,.int .i64 0]):=by
 have h:=c11 (swanF 900) x_9
 rw [show sV (swanF 900) 0 0=3 by decide +kernel] at h
 exact h
theorem k11c:Pure Tryd.prog 11 [(swanF 950).av] (fun v=>v=.tup [.int .i64 2,.int .i64 0]):=by
 have h:=c11 (swanF 950) x_95
 rw [show sV (swanF 950) 0 0=2 by decide +kernel] at h
 exact h
def r1:List Hu:=[⟨1,700,1400⟩,⟨1,700,1320⟩,⟨1,760,1400⟩]
def r2:List Hu:=[⟨2,520,0⟩,⟨2,519,0⟩,⟨2,449,0⟩]
def r3:List Hu:=[⟨3,5850,3067⟩,⟨3,5849,3067⟩,⟨3,5649,3067⟩,⟨3,5850,3066⟩,⟨3,5850,2999⟩]
theorem pas (r:List Hu) (l:List Int) (h1:bothE (swanF 500) r=0) (h2:pVs (swanF 500) 0 0 r=l):Pure Tryd.prog 16 [(swanF 500).av,.lst 3 (r.map Hu.row)] (fun v=>v=.tup [.lst 1 (l.map iv),.int .i64 0]):=by
 have h:=c16 (swanF 500) r
 have e:passV (swanF 500) r=.tup [.lst 1 (l.map iv),.int .i64 0]:=by unfold passV;rw [if_neg (by omega),h2]
 rw [e] at h;exact h
theorem p1:Pure Tryd.prog 16 [(swanF 500).av,.lst 3 (r1.map Hu.row)] (fun v=>v=.tup [.lst 1 (([1,2,1]:List Int).map iv),.int .i64 0]):=pas _ _ (by decide +kernel) (by decide +kernel)
theorem p2:Pure Tryd.prog 16 [(swanF 500).av,.lst 3 (r2.map Hu.row)] (fun v=>v=.tup [.lst 1 (([1,3,2]:List Int).map iv),.int .i64 0]):=pas _ _ (by decide +kernel) (by decide +kernel)
theorem p3:Pure Tryd.prog 16 [(swanF 500).av,.lst 3 (r3.map Hu.row)] (fun v=>v=.tup [.lst 1 (([1,3,2,3,2]:List Int).map iv),.int .i64 0]):=pas _ _ (by decide +kernel) (by decide +kernel)
def s1:List Hu:=[⟨2,520,0⟩,⟨2,519,0⟩]
def s2:List Hu:=[⟨2,520,0⟩]
theorem st1:Pure Tryd.prog 25 [(swanF 500).av,.lst 3 (s1.map Hu.row)] (fun v=>v=.tup [.int .i64 1,.int .i64 0]):=by
 intro g
 refine (c25 (swanF 500) s1 g).mono ?_
 rintro v h' ⟨hl,hv⟩
 refine ⟨hl,?_⟩
 unfold stopR at hv
 rw [if_neg (by decide +kernel)] at hv
 have e0:pV (swanF 500) 0 0 (hu s1 0)=1:=by decide +kernel
 have e1:¬ pV (swanF 500) 0 0 (hu s1 1)=1:=by decide +kernel
 obtain ⟨k,rfl,⟨_,ha⟩|⟨j,hj,rfl,hn,_⟩⟩:=hv
 ·exact absurd (ha 1 (by decide)) e1
 ·have hj':j < 2:=hj
  have:j=0 ∨ j=1:=by omega
  rcases this with rfl|rfl
  ·exact absurd e0 hn
  ·rfl
theorem st2:Pure Tryd.prog 25 [(swanF 500).av,.lst 3 (s2.map Hu.row)] (fun v=>v=.tup [.int .i64 (-1),.int .i64 0]):=by
 intro g
 refine (c25 (swanF 500) s2 g).mono ?_
 rintro v h' ⟨hl,hv⟩
 refine ⟨hl,?_⟩
 unfold stopR at hv
 rw [if_neg (by decide +kernel)] at hv
 have e0:pV (swanF 500) 0 0 (hu s2 0)=1:=by decide +kernel
 obtain ⟨k,rfl,⟨rfl,_⟩|⟨j,hj,rfl,hn,_⟩⟩:=hv
 ·rfl
 ·have hj':j < 1:=hj
  obtain rfl:j=0:=by omega
  exact absurd e0 hn
def b1:List Hu:=[⟨3,6000,3100⟩]
theorem go_b (m:Int):goesB (swanF 500) 500 m b1=decide (m≤66):=by
 have e:brP wH (swanF 500) 500 m ⟨3,6000,3100⟩ ↔ m≤66:=by
  simp [brP,wH,wh,oneA,frontA,rearA,swanF,Int.max_le]
  omega
 unfold goesB b1
 simp only[List.all_cons,List.all_nil,Bool.and_true]
 unfold pV
 rw [if_neg (by decide),if_neg (by decide)]
 by_cases h:m≤66
 ·rw [if_pos (e.2 h)];simp [h]
 ·rw [if_neg (fun q=>h (e.1 q))];split <;> simp [h]
theorem bal1:Pure Tryd.prog 18 [(swanF 500).av,.lst 3 (b1.map Hu.row),.int .i64 500] (fun v=>v=.tup [.agg [.int .i64 0,.int .i64 66],.int .i64 0]):=by
 intro g
 refine (c18 (swanF 500) b1 500 g).mono ?_
 rintro v h' ⟨hl,hv⟩
 refine ⟨hl,?_⟩
 unfold balR at hv
 rw [if_neg (by decide +kernel),if_neg (by decide)] at hv
 obtain ⟨a,b,⟨a1,a2,a3,a4⟩,⟨b1',b2,b3,b4⟩,hv⟩:=hv
 have hs:∀ m,sP wL (swanF 500) 500 m ↔ 0≤m+5300:=by
  intro m
  simp [sP,wL,wl,frontA,rearA,swanF]
  omega
 simp only[hs,go_b,decide_eq_false_iff_not,decide_eq_true_eq,Bool.not_eq_true',Bool.not_eq_false'] at a3 a4 b3 b4
 have ea:a=0:=by omega
 have eb:b=67:=by omega
 rw [if_neg (by omega)] at hv
 rw [hv,ea,eb];rfl
theorem f1:Pure Tryd.prog 26 [(swanF 500).av,.int .i64 100] (fun v=>v=.tup [.lst 2 [],.int .i64 2000,.int .i64 0]):=by
 have h:=c26 (swanF 500) 100
 rw [show fireL (swanF 500) 100=[] by decide +kernel,show fireS (swanF 500) 100=2000 by decide +kernel,show fireE (swanF 500) 100=0 by decide +kernel] at h
 exact h
theorem f2:Pure Tryd.prog 26 [(swanF 500).av,.int .i64 101] (fun v=>v=.tup [.lst 2 (([(1,3)]:List (Nat × Nat)).map nr),.int .i64 2000,.int .i64 0]):=by
 have h:=c26 (swanF 500) 101
 rw [show fireL (swanF 500) 101=[(1,3)] by decide +kernel,show fireS (swanF 500) 101=2000 by decide +kernel,show fireE (swanF 500) 101=0 by decide +kernel] at h
 exact h
def txt:List UInt8:=[102,108,111,97,116,32,49,48,48,48,32,51,48,48,32,50,48,48,32,56,48,48,32,57,48,48,32,52,48,48,48,32,53,48,48,32,52,48,48,10,108,111,97,100,32,51,48,48,32,53,48,48,32,54,48,48,32,52,53,48,32,53,48,48,32,49,32,48,10,108,111,97,100,32,55,48,48,32,49,48,48,48,32,49,48,48,48,32,51,56,48,32,51,56,48,32,50,32,53,48,48,48,10,108,111,97,100,32,53,48,48,32,49,48,48,32,50,48,48,32,51,48,48,32,51,53,48,32,51,32,51,48,48,48,10,108,111,97,100,32,54,48,48,32,53,48,32,53,48,32,52,48,48,32,53,50,48,32,52,32,48,10,101,110,100,32,52,10]
theorem x_t:cardT (swanF 500)=txt:=by decide +kernel
theorem x_wr:wrV (swanF 500)=.tup [.str txt,.int .i64 0]:=by unfold wrV;rw [if_pos x_0,x_t]
theorem x_rows:(splitL 10 txt).dropLast=[[102,108,111,97,116,32,49,48,48,48,32,51,48,48,32,50,48,48,32,56,48,48,32,57,48,48,32,52,48,48,48,32,53,48,48,32,52,48,48],
 [108,111,97,100,32,51,48,48,32,53,48,48,32,54,48,48,32,52,53,48,32,53,48,48,32,49,32,48],
 [108,111,97,100,32,55,48,48,32,49,48,48,48,32,49,48,48,48,32,51,56,48,32,51,56,48,32,50,32,53,48,48,48],
 [108,111,97,100,32,53,48,48,32,49,48,48,32,50,48,48,32,51,48,48,32,51,53,48,32,51,32,51,48,48,48],
 [108,111,97,100,32,54,48,48,32,53,48,32,53,48,32,52,48,48,32,53,50,48,32,52,32,48],
 [101,110,100,32,52]]:=by decide +kernel
theorem rw1:Pure Tryd.prog 28 [.str txt] (fun v=>v=.lst 1 (strs [[102,108,111,97,116,32,49,48,48,48,32,51,48,48,32,50,48,48,32,56,48,48,32,57,48,48,32,52,48,48,48,32,53,48,48,32,52,48,48],
 [108,111,97,100,32,51,48,48,32,53,48,48,32,54,48,48,32,52,53,48,32,53,48,48,32,49,32,48],
 [108,111,97,100,32,55,48,48,32,49,48,48,48,32,49,48,48,48,32,51,56,48,32,51,56,48,32,50,32,53,48,48,48],
 [108,111,97,100,32,53,48,48,32,49,48,48,32,50,48,48,32,51,48,48,32,51,53,48,32,51,32,51,48,48,48],
 [108,111,97,100,32,54,48,48,32,53,48,32,53,48,32,52,48,48,32,53,50,48,32,52,32,48],
 [101,110,100,32,52]])):=by
 have h:=c28 txt (by decide)
 rw [x_rows] at h
 exact h
end Go.Proofs.YthpkmcjiobnpgaaDoor
