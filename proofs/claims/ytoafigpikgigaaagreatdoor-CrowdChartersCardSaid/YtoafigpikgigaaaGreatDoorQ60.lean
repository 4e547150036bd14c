/- Contracts of functions that the claim reaches: what each call gives, told in our own logic. Conditions: those of each theorem. -/
import Derived.Test.YtoafigpikgigaaaGreatDoorQ15
import Derived.Test.YtoafigpikgigaaaGreatDoorQ23
import Derived.Test.YtoafigpikgigaaaGreatDoorV3
import Derived.Test.YtoafigpikgigaaaGreatDoorBaseC
import Derived.Test.YtoafigpikgigaaaGreatDoorCB
open List (length_map)
set_option linter.all false
set_option linter.unusedSimpArgs false
set_option linter.unusedVariables false
namespace Go.Proofs.YtoafigpikgigaaaGreatDoor
open Go.Av
attribute [local irreducible] thenA blockA awp awpOps awpD awp1
attribute [local go_sem_proc] Nat.reduceAdd Nat.reduceMul Nat.reduceEqDiff Nat.reduceBEq Nat.reduceLeDiff
attribute [local go_sem_proc ↓] reduceIte
attribute [local go_sem] if_yes if_no
set_option maxHeartbeats 8000000
set_option maxRecDepth 20000
theorem elt_ext {a b:List Int} (hl:a.length=b.length) (h:∀ i,i < a.length→elt a i=elt b i):a=b:=by
 apply List.ext_getElem hl
 intro i h1 h2
 have:=h i h1
 unfold elt at this
 rw [List.getD_eq_getElem?_getD,List.getD_eq_getElem?_getD,List.getElem?_eq_getElem h1,List.getElem?_eq_getElem h2] at this
 exact this
theorem c24 (a b:List Int) (ha:a.length≤1000000) (hb:b.length≤1000000):Pure Tryz.prog 24 [.lst 1 (a.map iv),.lst 1 (b.map iv)] (fun v=>v=.bool (decide (a=b))):=by
 intro h
 refine ACalls.forget (ACalls.of tab mixed Tryz.call24 Tryz.func24 rfl (fi:=⟨26,[],[],none,[(6,[0,0,3,7,0,0,48,112,255],[(0,false),(1,false),(2,false),(3,true),(4,false),(5,false),(6,false),(7,true),(8,false)])]⟩) rfl rfl (Nat.le_of_ble_eq_true rfl) (by decide) ?_)
 unfold startA
 repeat' (first|refine st_seq_reg rfl (by first|(simp only[go_sem,Lm];rfl)|rfl) (by first|(simp only[go_sem,Lm];rfl)|rfl) ?_|refine st_op ?_|refine st_det rfl (by simp (disch:=omega) only[go_sem,wr_i64,Lm];rfl) ?_|(refine st_condS rfl ?_ ?_ <;> intro hg <;> (try simp only[dcT,dcF,bnT,bnF] at hg))|refine st_nil ?_|refine st_tN ?_|refine st_seq ?_|refine st_block ?_|refine st_skip ?_|refine st_ret ?_|refine st_tR ?_)
 all_goals try (exfalso;omega)
 ·simp (disch:=omega) only[AEnd,Tryz.results24,aresK,fin,go_sem,implies_true,true_and,and_true,List.reverse_cons,List.reverse_nil]
  rw [decide_eq_false];intro e;rw [e] at hg;exact hg rfl
 have hl:a.length=b.length:=by omega
 refine st_loopC (α:=Nat) tab mixed [] [] (by repeat (first|exact trivial|refine ⟨rfl,?_⟩)) [] [] (by repeat (first|exact trivial|refine ⟨rfl,?_⟩)) (fun i=>[(5,.int .i64 (i:Nat))]) [(0,_),(1,_)] (fun _=>[]) [] (fun i=>i≤a.length∧∀ j,j < i→elt a j=elt b j) (fun i=>a.length - i) (by decide) 0 ⟨Nat.zero_le _,fun j hj=>absurd hj (Nat.not_lt_zero _)⟩ (by (try simp only[go_sem]);repeat' (first|exact trivial|refine And.intro ?_ ?_|rfl|(simp (disch:=omega) only[go_sem,if_yes,if_no,if_no];rfl)|(simp (disch:=omega) only[go_sem,if_yes,if_no,if_no]))) (by (try simp only[go_sem]);repeat' (first|exact trivial|refine And.intro ?_ ?_|rfl|(simp (disch:=omega) only[go_sem,if_yes,if_no,if_no];rfl)|(simp (disch:=omega) only[go_sem,if_yes,if_no,if_no]))) (by first|(simp only[go_sem];rfl)|rfl) (by intro n;simp only[go_sem];rfl) ?_
 rintro i c ⟨i1,i2⟩ hc
 simp only[go_sem]
 by_cases hi:i < a.length
 case neg =>
  obtain rfl:i=a.length:=by omega
  repeat' (first|refine st_seq_reg rfl (by first|(simp only[go_sem,Lm];rfl)|rfl) (by first|(simp only[go_sem,Lm];rfl)|rfl) ?_|refine st_reg rfl (by first|(simp only[go_sem,Lm];rfl)|rfl) (by first|(simp only[go_sem,Lm];rfl)|rfl) ?_|refine st_seq_draw rfl (by first|(simp only[go_sem,Lm];rfl)|rfl) (by first|(simp only[go_sem,Lm];rfl)|rfl) ?_|refine st_op ?_|refine st_det rfl (by simp (disch:=omega) only[go_sem,wr_i64,Lm];rfl) ?_|refine st_dop rfl ?_|(refine st_condS rfl ?_ ?_ <;> intro hg <;> (try simp only[dcT,dcF,bnT,bnF] at hg))|refine st_nil ?_|refine st_dnil ?_|refine st_tN ?_|refine st_seq ?_|refine st_block ?_|refine st_skip ?_|refine st_exit ?_|refine st_ret ?_|refine st_tE ?_|refine st_tR ?_|refine st_bN ?_|refine st_bR ?_|refine st_bH ?_)
  all_goals try (exfalso;omega)
  simp (disch:=omega) only[AEnd,Tryz.results24,aresK,fin,go_sem,implies_true,true_and,and_true,List.reverse_cons,List.reverse_nil]
  rw [decide_eq_true (elt_ext hl i2)]
 by_cases he:elt a i=elt b i
 ·repeat' (first|refine st_seq_reg rfl (by first|(simp only[go_sem,Lm,he];rfl)|rfl) (by first|(simp only[go_sem,Lm,he];rfl)|rfl) ?_|refine st_reg rfl (by first|(simp only[go_sem,Lm,he];rfl)|rfl) (by first|(simp only[go_sem,Lm,he];rfl)|rfl) ?_|refine st_seq_draw rfl (by first|(simp only[go_sem,Lm,he];rfl)|rfl) (by first|(simp only[go_sem,Lm,he];rfl)|rfl) ?_|refine st_op ?_|refine st_det rfl (by simp (disch:=omega) only[go_sem,wr_i64,Lm,he];rfl) ?_|refine st_dop rfl ?_|refine st_condF rfl ?_|(refine st_condS rfl ?_ ?_ <;> intro hg <;> (try simp only[dcT,dcF,bnT,bnF] at hg))|refine st_nil ?_|refine st_dnil ?_|refine st_tN ?_|refine st_seq ?_|refine st_block ?_|refine st_skip ?_|refine st_exit ?_|refine st_ret ?_|refine st_tE ?_|refine st_bN ?_|refine st_bH ?_)
  all_goals try (exfalso;omega)
  all_goals try (exfalso;first|exact absurd rfl (by assumption)|exact absurd he (by assumption))
  refine ⟨i+1,⟨by show i+1≤_;omega,all_stepP i2 he⟩,by show a.length - (i+1) < a.length - i;omega,(by repeat' (first|exact trivial|refine And.intro ?_ ?_|rfl|(simp (disch:=omega) only[go_sem,if_yes,if_no,if_no];rfl)|(simp (disch:=omega) only[go_sem,if_yes,if_no,if_no]))),(by repeat' (first|exact trivial|refine And.intro ?_ ?_|rfl|(simp (disch:=omega) only[go_sem,if_yes,if_no,if_no];rfl)|(simp (disch:=omega) only[go_sem,if_yes,if_no,if_no]))),rfl,(by first|exact HOld.of _ (by omega)|exact HOld.put _ _ _ (by omega))⟩
 ·repeat' (first|refine st_seq_reg rfl (by first|(simp only[go_sem,Lm];rfl)|rfl) (by first|(simp only[go_sem,Lm];rfl)|rfl) ?_|refine st_reg rfl (by first|(simp only[go_sem,Lm];rfl)|rfl) (by first|(simp only[go_sem,Lm];rfl)|rfl) ?_|refine st_seq_draw rfl (by first|(simp only[go_sem,Lm];rfl)|rfl) (by first|(simp only[go_sem,Lm];rfl)|rfl) ?_|refine st_op ?_|refine st_det rfl (by simp (disch:=omega) only[go_sem,wr_i64,Lm];rfl) ?_|refine st_dop rfl ?_|(refine st_condS rfl ?_ ?_ <;> intro hg <;> (try simp only[dcT,dcF,bnT,bnF] at hg))|refine st_nil ?_|refine st_dnil ?_|refine st_tN ?_|refine st_seq ?_|refine st_block ?_|refine st_skip ?_|refine st_exit ?_|refine st_ret ?_|refine st_tE ?_|refine st_tR ?_|refine st_bN ?_|refine st_bR ?_|refine st_bH ?_)
  all_goals try (exfalso;omega)
  simp (disch:=omega) only[AEnd,Tryz.results24,aresK,fin,go_sem,implies_true,true_and,and_true,List.reverse_cons,List.reverse_nil]
  rw [decide_eq_false];intro e;rw [e] at he;exact he rfl
def spR (x:Int × Int):List AV:=[.int .i64 x.1,.int .i64 x.2]
@[go_sem] theorem spR_eq (x:Int × Int):spR x=[.int .i64 x.1,.int .i64 x.2]:=rfl
def spn (l:List (Int × Int)) (i:Nat):Int × Int:=l.getD i (0,0)
@[go_sem] theorem sprow_getD {l:List (Int × Int)} {i:Nat} (h:i < l.length):(l.map spR).getD i []=spR (spn l i):=by
 simp [List.getD_eq_getElem?_getD,h,spn]
theorem spn_ext {a b:List (Int × Int)} (hl:a.length=b.length) (h:∀ i,i < a.length→spn a i=spn b i):a=b:=by
 apply List.ext_getElem hl
 intro i h1 h2
 have:=h i h1
 unfold spn at this
 rw [List.getD_eq_getElem?_getD,List.getD_eq_getElem?_getD,List.getElem?_eq_getElem h1,List.getElem?_eq_getElem h2] at this
 exact this
theorem sp_eq (x y:Int × Int):([(IntKind.i64,x.1),(.i64,x.2)]=[(IntKind.i64,y.1),(.i64,y.2)]) ↔ x=y:=by
 cases x;cases y;simp
theorem c22 (a b:List (Int × Int)) (ha:a.length≤1000000) (hb:b.length≤1000000):Pure Tryz.prog 22 [.lst 2 (a.map spR),.lst 2 (b.map spR)] (fun v=>v=.bool (decide (a=b))):=by
 intro h
 refine ACalls.forget (ACalls.of tab mixed Tryz.call22 Tryz.func22 rfl (fi:=⟨26,[],[],none,[(6,[0,0,3,7,0,0,48,112,255],[(0,false),(1,false),(2,false),(3,true),(4,false),(5,false),(6,false),(7,true),(8,false)])]⟩) rfl rfl (Nat.le_of_ble_eq_true rfl) (by decide) ?_)
 unfold startA
 repeat' (first|refine st_seq_reg rfl (by first|(simp only[go_sem,Lm];rfl)|rfl) (by first|(simp only[go_sem,Lm];rfl)|rfl) ?_|refine st_op ?_|refine st_det rfl (by simp (disch:=omega) only[go_sem,wr_i64,Lm];rfl) ?_|(refine st_condS rfl ?_ ?_ <;> intro hg <;> (try simp only[dcT,dcF,bnT,bnF] at hg))|refine st_nil ?_|refine st_tN ?_|refine st_seq ?_|refine st_block ?_|refine st_skip ?_|refine st_ret ?_|refine st_tR ?_)
 all_goals try (exfalso;omega)
 ·simp (disch:=omega) only[AEnd,Tryz.results22,aresK,fin,go_sem,implies_true,true_and,and_true,List.reverse_cons,List.reverse_nil]
  rw [decide_eq_false];intro e;rw [e] at hg;exact hg rfl
 have hl:a.length=b.length:=by omega
 refine st_loopC (α:=Nat) tab mixed [] [] (by repeat (first|exact trivial|refine ⟨rfl,?_⟩)) [] [] (by repeat (first|exact trivial|refine ⟨rfl,?_⟩)) (fun i=>[(5,.int .i64 (i:Nat))]) [(0,_),(1,_)] (fun _=>[]) [] (fun i=>i≤a.length∧∀ j,j < i→spn a j=spn b j) (fun i=>a.length - i) (by decide) 0 ⟨Nat.zero_le _,fun j hj=>absurd hj (Nat.not_lt_zero _)⟩ (by (try simp only[go_sem]);repeat' (first|exact trivial|refine And.intro ?_ ?_|rfl|(simp (disch:=omega) only[go_sem,if_yes,if_no,if_no];rfl)|(simp (disch:=omega) only[go_sem,if_yes,if_no,if_no]))) (by (try simp only[go_sem]);repeat' (first|exact trivial|refine And.intro ?_ ?_|rfl|(simp (disch:=omega) only[go_sem,if_yes,if_no,if_no];rfl)|(simp (disch:=omega) only[go_sem,if_yes,if_no,if_no]))) (by first|(simp only[go_sem];rfl)|rfl) (by intro n;simp only[go_sem];rfl) ?_
 rintro i c ⟨i1,i2⟩ hc
 simp only[go_sem]
 by_cases hi:i < a.length
 case neg =>
  obtain rfl:i=a.length:=by omega
  repeat' (first|refine st_seq_reg rfl (by first|(simp only[go_sem,Lm];rfl)|rfl) (by first|(simp only[go_sem,Lm];rfl)|rfl) ?_|refine st_reg rfl (by first|(simp only[go_sem,Lm];rfl)|rfl) (by first|(simp only[go_sem,Lm];rfl)|rfl) ?_|refine st_seq_draw rfl (by first|(simp only[go_sem,Lm];rfl)|rfl) (by first|(simp only[go_sem,Lm];rfl)|rfl) ?_|refine st_op ?_|refine st_det rfl (by simp (disch:=omega) only[go_sem,wr_i64,Lm];rfl) ?_|refine st_dop rfl ?_|(refine st_condS rfl ?_ ?_ <;> intro hg <;> (try simp only[dcT,dcF,bnT,bnF] at hg))|refine st_nil ?_|refine st_dnil ?_|refine st_tN ?_|refine st_seq ?_|refine st_block ?_|refine st_skip ?_|refine st_exit ?_|refine st_ret ?_|refine st_tE ?_|refine st_tR ?_|refine st_bN ?_|refine st_bR ?_|refine st_bH ?_)
  all_goals try (exfalso;omega)
  simp (disch:=omega) only[AEnd,Tryz.results22,aresK,fin,go_sem,implies_true,true_and,and_true,List.reverse_cons,List.reverse_nil]
  rw [decide_eq_true (spn_ext hl i2)]
 by_cases he:spn a i=spn b i
 ·have hd:decide ([(IntKind.i64,(spn a i).1),(.i64,(spn a i).2)]=[(IntKind.i64,(spn b i).1),(.i64,(spn b i).2)])=true:=decide_eq_true ((sp_eq _ _).2 he)
  repeat' (first|refine st_seq_reg rfl (by first|(simp only[go_sem,Lm,hd];rfl)|rfl) (by first|(simp only[go_sem,Lm,hd];rfl)|rfl) ?_|refine st_reg rfl (by first|(simp only[go_sem,Lm,hd];rfl)|rfl) (by first|(simp only[go_sem,Lm,hd];rfl)|rfl) ?_|refine st_seq_draw rfl (by first|(simp only[go_sem,Lm,hd];rfl)|rfl) (by first|(simp only[go_sem,Lm,hd];rfl)|rfl) ?_|refine st_op ?_|refine st_det rfl (by simp (disch:=omega) only[go_sem,wr_i64,Lm,hd];rfl) ?_|refine st_dop rfl ?_|refine st_condF rfl ?_|(refine st_condS rfl ?_ ?_ <;> intro hg <;> (try simp only[dcT,dcF,bnT,bnF] at hg))|refine st_nil ?_|refine st_dnil ?_|refine st_tN ?_|refine st_seq ?_|refine st_block ?_|refine st_skip ?_|refine st_exit ?_|refine st_ret ?_|refine st_tE ?_|refine st_bN ?_|refine st_bH ?_)
  all_goals try (exfalso;omega)
  refine ⟨i+1,⟨by show i+1≤_;omega,all_stepP i2 he⟩,by show a.length - (i+1) < a.length - i;omega,(by repeat' (first|exact trivial|refine And.intro ?_ ?_|rfl|(simp (disch:=omega) only[go_sem,if_yes,if_no,if_no];rfl)|(simp (disch:=omega) only[go_sem,if_yes,if_no,if_no]))),(by repeat' (first|exact trivial|refine And.intro ?_ ?_|rfl|(simp (disch:=omega) only[go_sem,if_yes,if_no,if_no];rfl)|(simp (disch:=omega) only[go_sem,if_yes,if_no,if_no]))),rfl,(by first|exact HOld.of _ (by omega)|exact HOld.put _ _ _ (by omega))⟩
 ·have hd:decide ([(IntKind.i64,(spn a i).1),(.i64,(spn a i).2)]=[(IntKind.i64,(spn b i).1),(.i64,(spn b i).2)])=false:=decide_eq_false (fun e=>he ((sp_eq _ _).1 e))
  repeat' (first|refine st_seq_reg rfl (by first|(simp only[go_sem,Lm,hd];rfl)|rfl) (by first|(simp only[go_sem,Lm,hd];rfl)|rfl) ?_|refine st_seq_draw rfl (by first|(simp only[go_sem,Lm,hd];rfl)|rfl) (by first|(simp only[go_sem,Lm,hd];rfl)|rfl) ?_|refine st_op ?_|refine st_det rfl (by simp (disch:=omega) only[go_sem,wr_i64,Lm,hd];rfl) ?_|refine st_dop rfl ?_|refine st_condT rfl ?_|(refine st_condS rfl ?_ ?_ <;> intro hg <;> (try simp only[dcT,dcF,bnT,bnF] at hg))|refine st_nil ?_|refine st_dnil ?_|refine st_tN ?_|refine st_seq ?_|refine st_block ?_|refine st_skip ?_|refine st_exit ?_|refine st_ret ?_|refine st_tE ?_|refine st_tR ?_|refine st_bR ?_|refine st_bH ?_)
  all_goals try (exfalso;omega)
  simp (disch:=omega) only[AEnd,Tryz.results22,aresK,fin,go_sem,implies_true,true_and,and_true,List.reverse_cons,List.reverse_nil]
  rw [decide_eq_false];intro e;rw [e] at he;exact he rfl
theorem c23 (a b:Int):Pure Tryz.prog 23 [.int .i64 a,.int .i64 b] (fun v=>v=.agg [.int .i64 a,.int .i64 b]):=by
 intro h
 refine ACalls.forget (ACalls.of tab mixed Tryz.call23 Tryz.func23 rfl (fi:=⟨8,[4],[],none,[]⟩) rfl rfl (Nat.le_of_ble_eq_true rfl) (by decide) ?_)
 unfold startA
 repeat' (first|refine st_seq_reg rfl (by first|(simp only[go_sem];rfl)|rfl) (by first|(simp only[go_sem];rfl)|rfl) ?_|refine st_op ?_|refine st_det rfl (by simp (disch:=omega) only[go_sem,wr_i64];rfl) ?_|refine st_loc rfl (by simp (disch:=omega) only[go_sem,wr_i64];rfl) ?_|refine st_store (by simp (disch:=omega) only[go_sem,wr_i64];rfl) ?_|refine st_nil ?_|refine st_ret ?_)
 simp (disch:=omega) only[AEnd,Tryz.results23,aresK,fin,go_sem,implies_true,true_and,and_true,List.reverse_cons,List.reverse_nil]
def town0:Tw:=⟨[110,80,50],[⟨0,1⟩,⟨1,2⟩,⟨0,2⟩],[⟨60,70,0,0,2,0,[0,1]⟩,⟨20,40,1,2,1,0,[2]⟩],6⟩
def proof0:List Rn:=[⟨1,0,0,0⟩,⟨1,1,0,0⟩,⟨2,0,2,4⟩,⟨3,0,0,0⟩,⟨3,0,0,0⟩]
theorem c17:Pure Tryz.prog 17 [] (fun v=>v=town0.av):=by
 intro h
 refine ACalls.forget (ACalls.of tab mixed Tryz.call17 Tryz.func17 rfl (fi:=⟨15,[0],[1,5,7,11,13],none,[]⟩) rfl rfl (Nat.le_of_ble_eq_true rfl) (by decide) ?_)
 unfold startA
 repeat' (first|refine st_seq_reg rfl (by first|(simp only[go_sem];rfl)|rfl) (by first|(simp only[go_sem];rfl)|rfl) ?_|refine st_op ?_|refine st_det rfl (by simp (disch:=omega) only[go_sem,wr_i64];rfl) ?_|refine st_loc rfl (by simp (disch:=omega) only[go_sem,wr_i64];rfl) ?_|refine st_store (by simp (disch:=omega) only[go_sem,wr_i64];rfl) ?_|(refine st_pureE (by first|(simp (disch:=omega) only[go_sem];rfl)|rfl) rfl (c23 _ _) (by first|(simp only[go_sem];rfl)|rfl) (by intro n;first|(simp (disch:=omega) only[go_sem];rfl)|rfl) ?_;intro n hn)|refine st_nil ?_|refine st_ret ?_)
 simp (disch:=omega) only[AEnd,Tryz.results17,aresK,fin,go_sem,implies_true,true_and,and_true,List.reverse_cons,List.reverse_nil]
 try rfl
theorem c20:Pure Tryz.prog 20 [] (fun v=>v=.lst 4 (proof0.map Rn.row)):=by
 intro h
 refine ACalls.forget (ACalls.of tab mixed Tryz.call20 Tryz.func20 rfl (fi:=⟨7,[],[6],none,[]⟩) rfl rfl (Nat.le_of_ble_eq_true rfl) (by decide) ?_)
 unfold startA
 repeat' (first|refine st_seq_reg rfl (by first|(simp only[go_sem];rfl)|rfl) (by first|(simp only[go_sem];rfl)|rfl) ?_|refine st_op ?_|refine st_det rfl (by simp (disch:=omega) only[go_sem,wr_i64];rfl) ?_|refine st_nil ?_|refine st_ret ?_)
 simp (disch:=omega) only[AEnd,Tryz.results20,aresK,fin,go_sem,implies_true,true_and,and_true,List.reverse_cons,List.reverse_nil]
 try rfl
theorem lds0:ldsR town0 [] 1=.tup [.lst 2 ([((60:Int),(110:Int)),(0,0),(0,0)].map spR),.int .i64 0]:=by
 unfold ldsR
 rw [if_neg (by decide +kernel),if_neg (by decide +kernel)]
 have e:ldR town0 (cls []) 1 town0.rooms.length=[((60:Int),(110:Int)),(0,0),(0,0)].map spR:=by
  show [[AV.int .i64 (ldLo town0 (cls []) 0 1),.int .i64 (ldHi town0 (cls []) 0 1)],[.int .i64 (ldLo town0 (cls []) 1 1),.int .i64 (ldHi town0 (cls []) 1 1)],[.int .i64 (ldLo town0 (cls []) 2 1),.int .i64 (ldHi town0 (cls []) 2 1)]]=_
  rw [show ldLo town0 (cls []) 0 1=60 by decide +kernel,show ldHi town0 (cls []) 0 1=110 by decide +kernel,show ldLo town0 (cls []) 1 1=0 by decide +kernel,show ldHi town0 (cls []) 1 1=0 by decide +kernel,show ldLo town0 (cls []) 2 1=0 by decide +kernel,show ldHi town0 (cls []) 2 1=0 by decide +kernel]
  rfl
 rw [e]
theorem close0:closeV town0=.tup [.lst 1 ([0].map iv),.int .i64 0]:=by
 unfold closeV
 rw [if_neg (by decide +kernel),show clo town0 town0.sts.length=some [0] by decide +kernel]
theorem proved0:provedV town0 0 proof0=.tup [.bool true,.int .i64 0]:=by
 unfold provedV
 rw [if_neg (by decide +kernel),if_neg (by decide),show provedB town0 0 proof0=true by decide +kernel]
theorem way0:wayV town0 [2] 0 2=.tup [.lst 1 ([0,1,2].map iv),.int .i64 0]:=by
 unfold wayV
 rw [if_neg (by decide +kernel),if_neg (by decide),show dst town0 [2] 2 0=some 2 by decide +kernel]
 show AV.tup [.lst 1 ((wayL town0 [2] 2 2 0).map iv),.int .i64 0]=_
 rw [show wayL town0 [2] 2 2 0=[0,1,2] by decide +kernel]
theorem Pure.le {f:FuncId} {args args':List AV} {R:AV→Prop} (hl:VLes args args') (H:Pure Tryz.prog f args' R):Pure Tryz.prog f args R :=
 fun h=>⟨(H h).1,fun c xs hh hv=>(H h).2 c xs hh (hl.rel hv)⟩
theorem le1 {a b:AV} {l r:List AV} (h:VLe a b) (k:VLes l r):VLes (a :: l) (b :: r):=by simp only[VLes];exact ⟨_,_,rfl,h,k⟩
theorem c6:Pure Tryz.prog 6 [] (fun v=>v=.bool true):=by
 have k1:Pure Tryz.prog 16 [town0.av,.nils,.int .i64 1] (fun v=>v=.tup [.lst 2 ([((60:Int),(110:Int)),(0,0),(0,0)].map spR),.int .i64 0]):=by
  have k:=c16 town0 [] 1 (by decide)
  rw [lds0] at k
  exact Pure.le (le1 (VLe.refl _) (le1 (VLe.nils 1) (VLes.refl _))) k
 have k2:=c18 town0
 rw [close0] at k2
 have k3:=c19 town0 0 proof0 (by decide)
 rw [proved0] at k3
 have k4:=c21 town0 [2] 0 2 (by decide)
 rw [way0] at k4
 have e1:=c22 [((60:Int),(110:Int)),(0,0),(0,0)] [((60:Int),(110:Int)),(0,0),(0,0)] (by decide) (by decide)
 rw [decide_eq_true rfl] at e1
 have e2:=c24 [0] [0] (by decide) (by decide)
 rw [decide_eq_true rfl] at e2
 have e3:=c24 [0,1,2] [0,1,2] (by decide) (by decide)
 rw [decide_eq_true rfl] at e3
 intro h
 refine ACalls.forget (ACalls.of tab mixed Tryz.call6 Tryz.func6 rfl (fi:=⟨66,[],[27,53,58,63],none,[]⟩) rfl rfl (Nat.le_of_ble_eq_true rfl) (by decide) ?_)
 unfold startA
 repeat' (first|refine st_seq_reg rfl (by first|(simp only[go_sem];rfl)|rfl) (by first|(simp only[go_sem];rfl)|rfl) ?_|refine st_op ?_|refine st_det rfl (by simp (disch:=omega) only[go_sem,wr_i64];rfl) ?_|(refine st_pureE (by first|(simp (disch:=omega) only[go_sem];rfl)|rfl) rfl (c17) (by first|(simp only[go_sem];rfl)|rfl) (by intro n;first|(simp (disch:=omega) only[go_sem];rfl)|rfl) ?_;intro n hn)|(refine st_pureE (by first|(simp (disch:=omega) only[go_sem];rfl)|rfl) rfl (c20) (by first|(simp only[go_sem];rfl)|rfl) (by intro n;first|(simp (disch:=omega) only[go_sem];rfl)|rfl) ?_;intro n hn)|(refine st_pureE (by first|(simp (disch:=omega) only[go_sem];rfl)|rfl) rfl (k1) (by first|(simp only[go_sem];rfl)|rfl) (by intro n;first|(simp (disch:=omega) only[go_sem];rfl)|rfl) ?_;intro n hn)|(refine st_pureE (by first|(simp (disch:=omega) only[go_sem];rfl)|rfl) rfl (k2) (by first|(simp only[go_sem];rfl)|rfl) (by intro n;first|(simp (disch:=omega) only[go_sem];rfl)|rfl) ?_;intro n hn)|(refine st_pureE (by first|(simp (disch:=omega) only[go_sem];rfl)|rfl) rfl (k3) (by first|(simp only[go_sem];rfl)|rfl) (by intro n;first|(simp (disch:=omega) only[go_sem];rfl)|rfl) ?_;intro n hn)|(refine st_pureE (by first|(simp (disch:=omega) only[go_sem];rfl)|rfl) rfl (k4) (by first|(simp only[go_sem];rfl)|rfl) (by intro n;first|(simp (disch:=omega) only[go_sem];rfl)|rfl) ?_;intro n hn)|(refine st_pureE (by first|(simp (disch:=omega) only[go_sem];rfl)|rfl) rfl (c23 _ _) (by first|(simp only[go_sem];rfl)|rfl) (by intro n;first|(simp (disch:=omega) only[go_sem];rfl)|rfl) ?_;intro n hn)|(refine st_pureE (by first|(simp (disch:=omega) only[go_sem];rfl)|rfl) rfl (e1) (by first|(simp only[go_sem];rfl)|rfl) (by intro n;first|(simp (disch:=omega) only[go_sem];rfl)|rfl) ?_;intro n hn)|(refine st_pureE (by first|(simp (disch:=omega) only[go_sem];rfl)|rfl) rfl (e2) (by first|(simp only[go_sem];rfl)|rfl) (by intro n;first|(simp (disch:=omega) only[go_sem];rfl)|rfl) ?_;intro n hn)|(refine st_pureE (by first|(simp (disch:=omega) only[go_sem];rfl)|rfl) rfl (e3) (by first|(simp only[go_sem];rfl)|rfl) (by intro n;first|(simp (disch:=omega) only[go_sem];rfl)|rfl) ?_;intro n hn)|refine st_gT rfl rfl rfl ?_|refine st_nil ?_|refine st_ret ?_)
 simp (disch:=omega) only[AEnd,Tryz.results6,aresK,fin,go_sem,implies_true,true_and,and_true,List.reverse_cons,List.reverse_nil]
end Go.Proofs.YtoafigpikgigaaaGreatDoor

namespace Go.Proofs.YtoafigpikgigaaaGreatDoor
open Go.Av
attribute [local irreducible] Shp
set_option maxRecDepth 20000
def I64 (n:Int):Prop:=-9223372036854775808≤n∧n≤9223372036854775807
theorem shpInt {d:Nat} {vs:List AV} (h:Shp Tryz.prog (d+1) 3 vs):∃ n,vs=[.int .i64 n]∧I64 n:=by
 obtain ⟨n,e,hw⟩:=shp_int Tryz.underlying3 h
 exact ⟨n,e,wf_i64 hw⟩
theorem shpNums {d:Nat} {vs:List AV} (h:Shp Tryz.prog (d+2) 22 vs):∃ l:List Int,vs=[.lst 1 (l.map iv)]∧l.length≤maxLen:=by
 obtain ⟨l,e,h1,_⟩:=shp_slice (f:=iv) (q:=fun _=>True) Tryz.underlying22 cel3 h fun r hr=>by
  obtain ⟨x,e,_⟩:=shpInt hr
  exact ⟨x,e,trivial⟩
 exact ⟨l,e,h1⟩
theorem shpSpan {d:Nat} {vs:List AV} (h:Shp Tryz.prog (d+2) 44 vs):∃ a b,vs=[.int .i64 a,.int .i64 b]:=by
 obtain ⟨parts,rfl,hl,hp⟩:=shp_struct Tryz.underlying44 h
 match parts,hl,hp with
 | [p0,p1],_,hp =>
  obtain ⟨a,rfl,_⟩:=shpInt (hp 0 _ p0 rfl rfl)
  obtain ⟨b,rfl,_⟩:=shpInt (hp 1 _ p1 rfl rfl)
  exact ⟨a,b,rfl⟩
theorem shpStreet {d:Nat} {vs:List AV} (h:Shp Tryz.prog (d+2) 66 vs):∃ x:Sx,vs=x.row:=by
 obtain ⟨parts,rfl,hl,hp⟩:=shp_struct Tryz.underlying66 h
 match parts,hl,hp with
 | [p0,p1],_,hp =>
  obtain ⟨a,rfl,_⟩:=shpInt (hp 0 _ p0 rfl rfl)
  obtain ⟨b,rfl,_⟩:=shpInt (hp 1 _ p1 rfl rfl)
  exact ⟨⟨a,b⟩,rfl⟩
def Gp.small (g:Gp):Prop:=g.path.length≤maxLen
theorem shpGroup {d:Nat} {vs:List AV} (h:Shp Tryz.prog (d+3) 46 vs):∃ x:Gp,vs=x.row∧x.small:=by
 obtain ⟨parts,rfl,hl,hp⟩:=shp_struct Tryz.underlying46 h
 match parts,hl,hp with
 | [p0,p1,p2,p3,p4],_,hp =>
  obtain ⟨a,b,rfl⟩:=shpSpan (hp 0 _ p0 rfl rfl)
  obtain ⟨c,e,rfl⟩:=shpSpan (hp 1 _ p1 rfl rfl)
  obtain ⟨f,rfl,_⟩:=shpInt (hp 2 _ p2 rfl rfl)
  obtain ⟨g,rfl,_⟩:=shpInt (hp 3 _ p3 rfl rfl)
  obtain ⟨l,rfl,hl⟩:=shpNums (hp 4 _ p4 rfl rfl)
  exact ⟨⟨a,b,c,e,f,g,l⟩,rfl,hl⟩
structure Tw.small (t:Tw):Prop where
 r:t.rooms.length≤maxLen
 s:t.sts.length≤maxLen
 g:t.gs.length≤maxLen
 p:∀ x ∈ t.gs,x.small
theorem shpTown {d:Nat} {vs:List AV} (h:Shp Tryz.prog (d+5) 26 vs):∃ t:Tw,AV.agg vs=t.av∧t.small:=by
 obtain ⟨parts,rfl,hl,hp⟩:=shp_struct Tryz.underlying26 h
 match parts,hl,hp with
 | [p0,p1,p2,p3],_,hp =>
  obtain ⟨a,rfl,h1⟩:=shpNums (hp 0 _ p0 rfl rfl)
  obtain ⟨b,rfl,h2,_⟩:=shp_slice (f:=Sx.row) (q:=fun _=>True) Tryz.underlying23 cel66 (hp 1 _ p1 rfl rfl) fun r hr=>by
   obtain ⟨x,e⟩:=shpStreet hr
   exact ⟨x,e,trivial⟩
  obtain ⟨c,rfl,h3,h4⟩:=shp_slice (f:=Gp.row) (q:=Gp.small) Tryz.underlying24 cel46 (hp 2 _ p2 rfl rfl) fun r hr=>shpGroup hr
  obtain ⟨e,rfl,_⟩:=shpInt (hp 3 _ p3 rfl rfl)
  exact ⟨⟨a,b,c,e⟩,rfl,⟨h1,h2,h3,h4⟩⟩
end Go.Proofs.YtoafigpikgigaaaGreatDoor

namespace Go.Proofs.YtoafigpikgigaaaGreatDoor
open Go.Av
attribute [local irreducible] thenA blockA awp awpOps awpD awp1
attribute [local go_sem_proc] Nat.reduceAdd Nat.reduceMul Nat.reduceEqDiff Nat.reduceBEq Nat.reduceLeDiff
attribute [local go_sem_proc ↓] reduceIte
attribute [local go_sem] if_yes if_no
set_option maxHeartbeats 8000000
set_option maxRecDepth 20000
structure Tw.lens (t:Tw):Prop where
 r:t.rooms.length≤1000
 s:t.sts.length≤1000
 g:t.gs.length≤1000
 p:∀ i,i < t.gs.length→(gp t.gs i).path.length≤1000
structure NotVast (t:Tw) (n:Int):Prop where
 r:t.rooms.length≤20
 s:t.sts.length≤20
 g:t.gs.length≤16
 p:∀ i,i < t.gs.length→(gp t.gs i).path.length≤20
 ok:chkE t=0→(t.sts.length:Int)≤n∧t.steps≤20
theorem NotVast.lens {t:Tw} {n:Int} (h:NotVast t n):t.lens:=⟨by have:=h.r;omega,by have:=h.s;omega,by have:=h.g;omega,fun i hi=>by have:=h.p i hi;omega⟩
theorem c5 (t:Tw) (n:Int) (hs:t.small):Pure Tryz.prog 5 [t.av,.int .i64 n] (fun v=>∃ r,v=.bool r∧(r=false→NotVast t n)):=by
 have h1:=hs.r
 have h2:=hs.s
 have h3:=hs.g
 have h4:∀ i,i < t.gs.length→(gp t.gs i).path.length≤maxLen:=fun i hi=>hs.p _ (gp_mem hi)
 unfold maxLen at h1 h2 h3 h4
 have k52:=c15 t
 have ht0:t.av=.agg t.cells:=rfl
 intro h
 refine ACalls.forget (ACalls.of tab mixed Tryz.call5 Tryz.func5 rfl (fi:=⟨52,[],[2],none,[]⟩) rfl rfl (Nat.le_of_ble_eq_true rfl) (by decide) ?_)
 unfold startA
 rw [ht0]
 unfold Tw.cells
 repeat' (first|refine st_seq_reg rfl (by first|(simp only[go_sem,Lm];rfl)|rfl) (by first|(simp only[go_sem,Lm];rfl)|rfl) ?_|refine st_reg rfl (by first|(simp only[go_sem,Lm];rfl)|rfl) (by first|(simp only[go_sem,Lm];rfl)|rfl) ?_|refine st_op ?_|refine st_det rfl (by simp (disch:=omega) only[go_sem,wr_i64,Lm];rfl) ?_|refine st_loc rfl (by simp (disch:=omega) only[go_sem,wr_i64,Lm];rfl) ?_|refine st_heap rfl (by simp (disch:=omega) only[go_sem,wr_i64,Lm];rfl) ?_|refine st_gT rfl rfl rfl ?_|refine st_gF rfl rfl rfl ?_|(refine st_gS rfl rfl ?_ ?_ <;> intro hg <;> (try simp only[dcT,dcF,bnT,bnF] at hg))|refine st_condT rfl ?_|refine st_condF rfl ?_|(refine st_condS rfl ?_ ?_ <;> intro hg <;> (try simp only[dcT,dcF,bnT,bnF] at hg))|refine st_nil ?_|refine st_tN ?_|refine st_seq ?_|refine st_block ?_|refine st_skip ?_|refine st_exit ?_|refine st_ret ?_|refine st_tE ?_|refine st_tR ?_|refine st_bN ?_|refine st_bR ?_|refine st_bH ?_|refine st_bM rfl ?_)
 refine st_loopC (α:=Nat) tab mixed [] [] (by repeat (first|exact trivial|refine ⟨rfl,?_⟩)) [] [] (by repeat (first|exact trivial|refine ⟨rfl,?_⟩)) (fun i=>[(5,.int .i64 (i:Nat))]) [(1,_),(2,_),(4,_)] (fun _=>[]) [] (fun i=>i≤t.gs.length∧∀ j,j < i→(gp t.gs j).path.length≤20) (fun i=>t.gs.length - i) (by decide) 0 ⟨Nat.zero_le _,fun j hj=>absurd hj (Nat.not_lt_zero _)⟩ (by (try simp only[go_sem]);repeat' (first|exact trivial|refine And.intro ?_ ?_|rfl|(simp (disch:=omega) only[go_sem,if_yes,if_no,if_no];rfl)|(simp (disch:=omega) only[go_sem,if_yes,if_no,if_no]))) (by (try simp only[go_sem]);repeat' (first|exact trivial|refine And.intro ?_ ?_|rfl|(simp (disch:=omega) only[go_sem,if_yes,if_no,if_no];rfl)|(simp (disch:=omega) only[go_sem,if_yes,if_no,if_no]))) (by first|(simp only[go_sem];rfl)|rfl) (by intro n;simp only[go_sem];rfl) ?_
 rintro i c ⟨i1,i2⟩ hc
 simp only[go_sem]
 by_cases hi:i < t.gs.length
 case pos =>
  have hp:=h4 i hi
  by_cases hl:(gp t.gs i).path.length≤20
  ·repeat' (first|refine st_seq_reg rfl (by first|(simp only[go_sem,Lm];rfl)|rfl) (by first|(simp only[go_sem,Lm];rfl)|rfl) ?_|refine st_reg rfl (by first|(simp only[go_sem,Lm];rfl)|rfl) (by first|(simp only[go_sem,Lm];rfl)|rfl) ?_|refine st_op ?_|refine st_det rfl (by simp (disch:=omega) only[go_sem,wr_i64,Lm];rfl) ?_|refine st_loc rfl (by simp (disch:=omega) only[go_sem,wr_i64,Lm];rfl) ?_|refine st_heap rfl (by simp (disch:=omega) only[go_sem,wr_i64,Lm];rfl) ?_|refine st_gT rfl rfl rfl ?_|refine st_gF rfl rfl rfl ?_|(refine st_gS rfl rfl ?_ ?_ <;> intro hg <;> (try simp only[dcT,dcF,bnT,bnF] at hg))|refine st_condT rfl ?_|refine st_condF rfl ?_|(refine st_condS rfl ?_ ?_ <;> intro hg <;> (try simp only[dcT,dcF,bnT,bnF] at hg))|refine st_nil ?_|refine st_tN ?_|refine st_seq ?_|refine st_block ?_|refine st_skip ?_|refine st_exit ?_|refine st_ret ?_|refine st_tE ?_|refine st_tR ?_|refine st_bN ?_|refine st_bR ?_|refine st_bH ?_|refine st_bM rfl ?_)
   all_goals try (exfalso;omega)
   refine ⟨i+1,⟨by show i+1≤_;omega,fun j hj=>by by_cases e:j=i;(rw [e];exact hl);(exact i2 j (by omega))⟩,by show t.gs.length - (i+1) < t.gs.length - i;omega,(by repeat' (first|exact trivial|refine And.intro ?_ ?_|rfl|(simp (disch:=omega) only[go_sem,if_yes,if_no,if_no];rfl)|(simp (disch:=omega) only[go_sem,if_yes,if_no,if_no]))),(by repeat' (first|exact trivial|refine And.intro ?_ ?_|rfl|(simp (disch:=omega) only[go_sem,if_yes,if_no,if_no];rfl)|(simp (disch:=omega) only[go_sem,if_yes,if_no,if_no]))),rfl,(by first|exact HOld.of _ (by omega)|exact HOld.put _ _ _ (by omega))⟩
  ·repeat' (first|refine st_seq_reg rfl (by first|(simp only[go_sem,Lm];rfl)|rfl) (by first|(simp only[go_sem,Lm];rfl)|rfl) ?_|refine st_reg rfl (by first|(simp only[go_sem,Lm];rfl)|rfl) (by first|(simp only[go_sem,Lm];rfl)|rfl) ?_|refine st_op ?_|refine st_det rfl (by simp (disch:=omega) only[go_sem,wr_i64,Lm];rfl) ?_|refine st_loc rfl (by simp (disch:=omega) only[go_sem,wr_i64,Lm];rfl) ?_|refine st_heap rfl (by simp (disch:=omega) only[go_sem,wr_i64,Lm];rfl) ?_|refine st_gT rfl rfl rfl ?_|refine st_gF rfl rfl rfl ?_|(refine st_gS rfl rfl ?_ ?_ <;> intro hg <;> (try simp only[dcT,dcF,bnT,bnF] at hg))|refine st_condT rfl ?_|refine st_condF rfl ?_|(refine st_condS rfl ?_ ?_ <;> intro hg <;> (try simp only[dcT,dcF,bnT,bnF] at hg))|refine st_nil ?_|refine st_tN ?_|refine st_seq ?_|refine st_block ?_|refine st_skip ?_|refine st_exit ?_|refine st_ret ?_|refine st_tE ?_|refine st_tR ?_|refine st_bN ?_|refine st_bR ?_|refine st_bH ?_|refine st_bM rfl ?_)
   all_goals try (exfalso;omega)
   simp (disch:=omega) only[AEnd,Tryz.results5,aresK,fin,go_sem,implies_true,true_and,and_true,List.reverse_cons,List.reverse_nil]
   exact ⟨true,rfl,fun e=>by cases e⟩
 obtain rfl:i=t.gs.length:=by omega
 repeat' (first|refine st_seq_reg rfl (by first|(simp only[go_sem,Lm];rfl)|rfl) (by first|(simp only[go_sem,Lm];rfl)|rfl) ?_|refine st_reg rfl (by first|(simp only[go_sem,Lm];rfl)|rfl) (by first|(simp only[go_sem,Lm];rfl)|rfl) ?_|refine st_op ?_|refine st_det rfl (by simp (disch:=omega) only[go_sem,wr_i64,Lm];rfl) ?_|refine st_loc rfl (by simp (disch:=omega) only[go_sem,wr_i64,Lm];rfl) ?_|refine st_heap rfl (by simp (disch:=omega) only[go_sem,wr_i64,Lm];rfl) ?_|(refine st_pureE (by first|(simp (disch:=omega) only[go_sem,Lm];rfl)|rfl) rfl (k52) (by first|(simp only[go_sem,Lm];rfl)|rfl) (by intro n;first|(simp (disch:=omega) only[go_sem];rfl)|rfl) ?_;intro n hn)|refine st_gT rfl rfl rfl ?_|refine st_gF rfl rfl rfl ?_|(refine st_gS rfl rfl ?_ ?_ <;> intro hg <;> (try simp only[dcT,dcF,bnT,bnF] at hg))|refine st_condT rfl ?_|refine st_condF rfl ?_|(refine st_condS rfl ?_ ?_ <;> intro hg <;> (try simp only[dcT,dcF,bnT,bnF] at hg))|refine st_nil ?_|refine st_tN ?_|refine st_seq ?_|refine st_block ?_|refine st_skip ?_|refine st_exit ?_|refine st_ret ?_|refine st_tE ?_|refine st_tR ?_|refine st_bN ?_|refine st_bR ?_|refine st_bH ?_|refine st_bM rfl ?_)
 all_goals try (exfalso;omega)
 all_goals
  simp (disch:=omega) only[AEnd,Tryz.results5,aresK,fin,go_sem,implies_true,true_and,and_true,List.reverse_cons,List.reverse_nil]
  first
   | exact ⟨true,rfl,fun e=>by cases e⟩
   | exact ⟨false,rfl,fun e=>⟨by omega,by omega,by omega,i2,fun h0=>by omega⟩⟩
   | exact ⟨_,rfl,fun e=>⟨by omega,by omega,by omega,i2,fun h0=>by simp only[decide_eq_false_iff_not] at e;omega⟩⟩
end Go.Proofs.YtoafigpikgigaaaGreatDoor
