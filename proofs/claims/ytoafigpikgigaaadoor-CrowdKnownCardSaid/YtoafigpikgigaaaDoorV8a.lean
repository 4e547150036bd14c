/- Contracts of functions that the claim reaches: what each call gives, told in our own logic. Conditions: those of each theorem. -/
import Derived.Test.YtoafigpikgigaaaDoorQ15
import Derived.Test.YtoafigpikgigaaaDoorQ23
import Derived.Test.YtoafigpikgigaaaDoorY3
import Derived.Test.YtoafigpikgigaaaDoorQ6
open List (length_map)
set_option linter.all false
set_option linter.unusedSimpArgs false
set_option linter.unusedVariables false
namespace Go.Proofs.YtoafigpikgigaaaDoor
open Go.Av
attribute [local irreducible] thenA blockA awp awpOps awpD awp1
attribute [local go_sem_proc] Nat.reduceAdd Nat.reduceMul Nat.reduceEqDiff Nat.reduceBEq Nat.reduceLeDiff
attribute [local go_sem_proc ↓] reduceIte
attribute [local go_sem] if_yes if_no
set_option maxHeartbeats 8000000
set_option maxRecDepth 20000
theorem elt_ext {a b:List Int} (hl:a.length=b.length) (h:∀ i,i < a.length→elt a i=elt b i):a=b:=by
 apply List.ext_getElem hl
 intro i h1 h2
 have:=h i h1
 unfold elt at this
 rw [List.getD_eq_getElem?_getD,List.getD_eq_getElem?_getD,List.getElem?_eq_getElem h1,List.getElem?_eq_getElem h2] at this
 exact this
theorem c8 (a b:List Int) (ha:a.length≤1000000) (hb:b.length≤1000000):Pure Tryd.prog 8 [.lst 1 (a.map iv),.lst 1 (b.map iv)] (fun v=>v=.bool (decide (a=b))):=by
 intro h
 refine ACalls.forget (ACalls.of tab mixed Tryd.call8 Tryd.func8 rfl (fi:=⟨26,[],[],none,[(6,[0,0,3,7,0,0,48,112,255],[(0,false),(1,false),(2,false),(3,true),(4,false),(5,false),(6,false),(7,true),(8,false)])]⟩) rfl rfl (Nat.le_of_ble_eq_true rfl) (by decide) ?_)
 unfold startA
 repeat' (first|refine st_seq_reg rfl (by first|(simp only[go_sem,length_map];rfl)|rfl) (by first|(simp only[go_sem,length_map];rfl)|rfl) ?_|refine st_op ?_|refine st_det rfl (by simp (disch:=omega) only[go_sem,wr_i64,length_map];rfl) ?_|(refine st_condS rfl ?_ ?_ <;> intro hg <;> (try simp only[dcT,dcF,bnT,bnF] at hg))|refine st_nil ?_|refine st_tN ?_|refine st_seq ?_|refine st_block ?_|refine st_skip ?_|refine st_ret ?_|refine st_tR ?_)
 all_goals try (exfalso;omega)
 ·simp (disch:=omega) only[AEnd,Tryd.results8,aresK,fin,go_sem,implies_true,true_and,and_true,List.reverse_cons,List.reverse_nil]
  rw [decide_eq_false];intro e;rw [e] at hg;exact hg rfl
 have hl:a.length=b.length:=by omega
 refine st_loopC (α:=Nat) tab mixed [] [] (by repeat (first|exact trivial|refine ⟨rfl,?_⟩)) [] [] (by repeat (first|exact trivial|refine ⟨rfl,?_⟩)) (fun i=>[(5,.int .i64 (i:Nat))]) [(0,_),(1,_)] (fun _=>[]) [] (fun i=>i≤a.length∧∀ j,j < i→elt a j=elt b j) (fun i=>a.length - i) (by decide) 0 ⟨Nat.zero_le _,fun j hj=>absurd hj (Nat.not_lt_zero _)⟩ (by (try simp only[go_sem]);repeat' (first|exact trivial|refine And.intro ?_ ?_|rfl|(simp (disch:=omega) only[go_sem,if_yes,if_no,if_no];rfl)|(simp (disch:=omega) only[go_sem,if_yes,if_no,if_no]))) (by (try simp only[go_sem]);repeat' (first|exact trivial|refine And.intro ?_ ?_|rfl|(simp (disch:=omega) only[go_sem,if_yes,if_no,if_no];rfl)|(simp (disch:=omega) only[go_sem,if_yes,if_no,if_no]))) (by first|(simp only[go_sem];rfl)|rfl) (by intro n;simp only[go_sem];rfl) ?_
 rintro i c ⟨i1,i2⟩ hc
 simp only[go_sem]
 by_cases hi:i < a.length
 case neg =>
  obtain rfl:i=a.length:=by omega
  repeat' (first|refine st_seq_reg rfl (by first|(simp only[go_sem,length_map];rfl)|rfl) (by first|(simp only[go_sem,length_map];rfl)|rfl) ?_|refine st_reg rfl (by first|(simp only[go_sem,length_map];rfl)|rfl) (by first|(simp only[go_sem,length_map];rfl)|rfl) ?_|refine st_seq_draw rfl (by first|(simp only[go_sem,length_map];rfl)|rfl) (by first|(simp only[go_sem,length_map];rfl)|rfl) ?_|refine st_op ?_|refine st_det rfl (by simp (disch:=omega) only[go_sem,wr_i64,length_map];rfl) ?_|refine st_dop rfl ?_|(refine st_condS rfl ?_ ?_ <;> intro hg <;> (try simp only[dcT,dcF,bnT,bnF] at hg))|refine st_nil ?_|refine st_dnil ?_|refine st_tN ?_|refine st_seq ?_|refine st_block ?_|refine st_skip ?_|refine st_exit ?_|refine st_ret ?_|refine st_tE ?_|refine st_tR ?_|refine st_bN ?_|refine st_bR ?_|refine st_bH ?_)
  all_goals try (exfalso;omega)
  simp (disch:=omega) only[AEnd,Tryd.results8,aresK,fin,go_sem,implies_true,true_and,and_true,List.reverse_cons,List.reverse_nil]
  rw [decide_eq_true (elt_ext hl i2)]
 by_cases he:elt a i=elt b i
 ·repeat' (first|refine st_seq_reg rfl (by first|(simp only[go_sem,length_map,he];rfl)|rfl) (by first|(simp only[go_sem,length_map,he];rfl)|rfl) ?_|refine st_reg rfl (by first|(simp only[go_sem,length_map,he];rfl)|rfl) (by first|(simp only[go_sem,length_map,he];rfl)|rfl) ?_|refine st_seq_draw rfl (by first|(simp only[go_sem,length_map,he];rfl)|rfl) (by first|(simp only[go_sem,length_map,he];rfl)|rfl) ?_|refine st_op ?_|refine st_det rfl (by simp (disch:=omega) only[go_sem,wr_i64,length_map,he];rfl) ?_|refine st_dop rfl ?_|refine st_condF rfl ?_|(refine st_condS rfl ?_ ?_ <;> intro hg <;> (try simp only[dcT,dcF,bnT,bnF] at hg))|refine st_nil ?_|refine st_dnil ?_|refine st_tN ?_|refine st_seq ?_|refine st_block ?_|refine st_skip ?_|refine st_exit ?_|refine st_ret ?_|refine st_tE ?_|refine st_bN ?_|refine st_bH ?_)
  all_goals try (exfalso;omega)
  all_goals try (exfalso;first|exact absurd rfl (by assumption)|exact absurd he (by assumption))
  refine ⟨i+1,⟨by show i+1≤_;omega,all_stepP i2 he⟩,by show a.length - (i+1) < a.length - i;omega,(by repeat' (first|exact trivial|refine And.intro ?_ ?_|rfl|(simp (disch:=omega) only[go_sem,if_yes,if_no,if_no];rfl)|(simp (disch:=omega) only[go_sem,if_yes,if_no,if_no]))),(by repeat' (first|exact trivial|refine And.intro ?_ ?_|rfl|(simp (disch:=omega) only[go_sem,if_yes,if_no,if_no];rfl)|(simp (disch:=omega) only[go_sem,if_yes,if_no,if_no]))),rfl,(by first|exact HOld.of _ (by omega)|exact HOld.put _ _ _ (by omega))⟩
 ·repeat' (first|refine st_seq_reg rfl (by first|(simp only[go_sem,length_map];rfl)|rfl) (by first|(simp only[go_sem,length_map];rfl)|rfl) ?_|refine st_reg rfl (by first|(simp only[go_sem,length_map];rfl)|rfl) (by first|(simp only[go_sem,length_map];rfl)|rfl) ?_|refine st_seq_draw rfl (by first|(simp only[go_sem,length_map];rfl)|rfl) (by first|(simp only[go_sem,length_map];rfl)|rfl) ?_|refine st_op ?_|refine st_det rfl (by simp (disch:=omega) only[go_sem,wr_i64,length_map];rfl) ?_|refine st_dop rfl ?_|(refine st_condS rfl ?_ ?_ <;> intro hg <;> (try simp only[dcT,dcF,bnT,bnF] at hg))|refine st_nil ?_|refine st_dnil ?_|refine st_tN ?_|refine st_seq ?_|refine st_block ?_|refine st_skip ?_|refine st_exit ?_|refine st_ret ?_|refine st_tE ?_|refine st_tR ?_|refine st_bN ?_|refine st_bR ?_|refine st_bH ?_)
  all_goals try (exfalso;omega)
  simp (disch:=omega) only[AEnd,Tryd.results8,aresK,fin,go_sem,implies_true,true_and,and_true,List.reverse_cons,List.reverse_nil]
  rw [decide_eq_false];intro e;rw [e] at he;exact he rfl
def spR (x:Int × Int):List AV:=[.int .i64 x.1,.int .i64 x.2]
@[go_sem] theorem spR_eq (x:Int × Int):spR x=[.int .i64 x.1,.int .i64 x.2]:=rfl
def spn (l:List (Int × Int)) (i:Nat):Int × Int:=l.getD i (0,0)
@[go_sem] theorem sprow_getD {l:List (Int × Int)} {i:Nat} (h:i < l.length):(l.map spR).getD i []=spR (spn l i):=by
 simp [List.getD_eq_getElem?_getD,h,spn]
theorem spn_ext {a b:List (Int × Int)} (hl:a.length=b.length) (h:∀ i,i < a.length→spn a i=spn b i):a=b:=by
 apply List.ext_getElem hl
 intro i h1 h2
 have:=h i h1
 unfold spn at this
 rw [List.getD_eq_getElem?_getD,List.getD_eq_getElem?_getD,List.getElem?_eq_getElem h1,List.getElem?_eq_getElem h2] at this
 exact this
theorem sp_eq (x y:Int × Int):([(IntKind.i64,x.1),(.i64,x.2)]=[(IntKind.i64,y.1),(.i64,y.2)]) ↔ x=y:=by
 cases x;cases y;simp
theorem c11 (a b:List (Int × Int)) (ha:a.length≤1000000) (hb:b.length≤1000000):Pure Tryd.prog 11 [.lst 2 (a.map spR),.lst 2 (b.map spR)] (fun v=>v=.bool (decide (a=b))):=by
 intro h
 refine ACalls.forget (ACalls.of tab mixed Tryd.call11 Tryd.func11 rfl (fi:=⟨26,[],[],none,[(6,[0,0,3,7,0,0,48,112,255],[(0,false),(1,false),(2,false),(3,true),(4,false),(5,false),(6,false),(7,true),(8,false)])]⟩) rfl rfl (Nat.le_of_ble_eq_true rfl) (by decide) ?_)
 unfold startA
 repeat' (first|refine st_seq_reg rfl (by first|(simp only[go_sem,length_map];rfl)|rfl) (by first|(simp only[go_sem,length_map];rfl)|rfl) ?_|refine st_op ?_|refine st_det rfl (by simp (disch:=omega) only[go_sem,wr_i64,length_map];rfl) ?_|(refine st_condS rfl ?_ ?_ <;> intro hg <;> (try simp only[dcT,dcF,bnT,bnF] at hg))|refine st_nil ?_|refine st_tN ?_|refine st_seq ?_|refine st_block ?_|refine st_skip ?_|refine st_ret ?_|refine st_tR ?_)
 all_goals try (exfalso;omega)
 ·simp (disch:=omega) only[AEnd,Tryd.results11,aresK,fin,go_sem,implies_true,true_and,and_true,List.reverse_cons,List.reverse_nil]
  rw [decide_eq_false];intro e;rw [e] at hg;exact hg rfl
 have hl:a.length=b.length:=by omega
 refine st_loopC (α:=Nat) tab mixed [] [] (by repeat (first|exact trivial|refine ⟨rfl,?_⟩)) [] [] (by repeat (first|exact trivial|refine ⟨rfl,?_⟩)) (fun i=>[(5,.int .i64 (i:Nat))]) [(0,_),(1,_)] (fun _=>[]) [] (fun i=>i≤a.length∧∀ j,j < i→spn a j=spn b j) (fun i=>a.length - i) (by decide) 0 ⟨Nat.zero_le _,fun j hj=>absurd hj (Nat.not_lt_zero _)⟩ (by (try simp only[go_sem]);repeat' (first|exact trivial|refine And.intro ?_ ?_|rfl|(simp (disch:=omega) only[go_sem,if_yes,if_no,if_no];rfl)|(simp (disch:=omega) only[go_sem,if_yes,if_no,if_no]))) (by (try simp only[go_sem]);repeat' (first|exact trivial|refine And.intro ?_ ?_|rfl|(simp (disch:=omega) only[go_sem,if_yes,if_no,if_no];rfl)|(simp (disch:=omega) only[go_sem,if_yes,if_no,if_no]))) (by first|(simp only[go_sem];rfl)|rfl) (by intro n;simp only[go_sem];rfl) ?_
 rintro i c ⟨i1,i2⟩ hc
 simp only[go_sem]
 by_cases hi:i < a.length
 case neg =>
  obtain rfl:i=a.length:=by omega
  repeat' (first|refine st_seq_reg rfl (by first|(simp only[go_sem,length_map];rfl)|rfl) (by first|(simp only[go_sem,length_map];rfl)|rfl) ?_|refine st_reg rfl (by first|(simp only[go_sem,length_map];rfl)|rfl) (by first|(simp only[go_sem,length_map];rfl)|rfl) ?_|refine st_seq_draw rfl (by first|(simp only[go_sem,length_map];rfl)|rfl) (by first|(simp only[go_sem,length_map];rfl)|rfl) ?_|refine st_op ?_|refine st_det rfl (by simp (disch:=omega) only[go_sem,wr_i64,length_map];rfl) ?_|refine st_dop rfl ?_|(refine st_condS rfl ?_ ?_ <;> intro hg <;> (try simp only[dcT,dcF,bnT,bnF] at hg))|refine st_nil ?_|refine st_dnil ?_|refine st_tN ?_|refine st_seq ?_|refine st_block ?_|refine st_skip ?_|refine st_exit ?_|refine st_ret ?_|refine st_tE ?_|refine st_tR ?_|refine st_bN ?_|refine st_bR ?_|refine st_bH ?_)
  all_goals try (exfalso;omega)
  simp (disch:=omega) only[AEnd,Tryd.results11,aresK,fin,go_sem,implies_true,true_and,and_true,List.reverse_cons,List.reverse_nil]
  rw [decide_eq_true (spn_ext hl i2)]
 by_cases he:spn a i=spn b i
 ·have hd:decide ([(IntKind.i64,(spn a i).1),(.i64,(spn a i).2)]=[(IntKind.i64,(spn b i).1),(.i64,(spn b i).2)])=true:=decide_eq_true ((sp_eq _ _).2 he)
  repeat' (first|refine st_seq_reg rfl (by first|(simp only[go_sem,length_map,hd];rfl)|rfl) (by first|(simp only[go_sem,length_map,hd];rfl)|rfl) ?_|refine st_reg rfl (by first|(simp only[go_sem,length_map,hd];rfl)|rfl) (by first|(simp only[go_sem,length_map,hd];rfl)|rfl) ?_|refine st_seq_draw rfl (by first|(simp only[go_sem,length_map,hd];rfl)|rfl) (by first|(simp only[go_sem,length_map,hd];rfl)|rfl) ?_|refine st_op ?_|refine st_det rfl (by simp (disch:=omega) only[go_sem,wr_i64,length_map,hd];rfl) ?_|refine st_dop rfl ?_|refine st_condF rfl ?_|(refine st_condS rfl ?_ ?_ <;> intro hg <;> (try simp only[dcT,dcF,bnT,bnF] at hg))|refine st_nil ?_|refine st_dnil ?_|refine st_tN ?_|refine st_seq ?_|refine st_block ?_|refine st_skip ?_|refine st_exit ?_|refine st_ret ?_|refine st_tE ?_|refine st_bN ?_|refine st_bH ?_)
  all_goals try (exfalso;omega)
  refine ⟨i+1,⟨by show i+1≤_;omega,all_stepP i2 he⟩,by show a.length - (i+1) < a.length - i;omega,(by repeat' (first|exact trivial|refine And.intro ?_ ?_|rfl|(simp (disch:=omega) only[go_sem,if_yes,if_no,if_no];rfl)|(simp (disch:=omega) only[go_sem,if_yes,if_no,if_no]))),(by repeat' (first|exact trivial|refine And.intro ?_ ?_|rfl|(simp (disch:=omega) only[go_sem,if_yes,if_no,if_no];rfl)|(simp (disch:=omega) only[go_sem,if_yes,if_no,if_no]))),rfl,(by first|exact HOld.of _ (by omega)|exact HOld.put _ _ _ (by omega))⟩
 ·have hd:decide ([(IntKind.i64,(spn a i).1),(.i64,(spn a i).2)]=[(IntKind.i64,(spn b i).1),(.i64,(spn b i).2)])=false:=decide_eq_false (fun e=>he ((sp_eq _ _).1 e))
  repeat' (first|refine st_seq_reg rfl (by first|(simp only[go_sem,length_map,hd];rfl)|rfl) (by first|(simp only[go_sem,length_map,hd];rfl)|rfl) ?_|refine st_seq_draw rfl (by first|(simp only[go_sem,length_map,hd];rfl)|rfl) (by first|(simp only[go_sem,length_map,hd];rfl)|rfl) ?_|refine st_op ?_|refine st_det rfl (by simp (disch:=omega) only[go_sem,wr_i64,length_map,hd];rfl) ?_|refine st_dop rfl ?_|refine st_condT rfl ?_|(refine st_condS rfl ?_ ?_ <;> intro hg <;> (try simp only[dcT,dcF,bnT,bnF] at hg))|refine st_nil ?_|refine st_dnil ?_|refine st_tN ?_|refine st_seq ?_|refine st_block ?_|refine st_skip ?_|refine st_exit ?_|refine st_ret ?_|refine st_tE ?_|refine st_tR ?_|refine st_bR ?_|refine st_bH ?_)
  all_goals try (exfalso;omega)
  simp (disch:=omega) only[AEnd,Tryd.results11,aresK,fin,go_sem,implies_true,true_and,and_true,List.reverse_cons,List.reverse_nil]
  rw [decide_eq_false];intro e;rw [e] at he;exact he rfl
theorem c12 (a b:Int):Pure Tryd.prog 12 [.int .i64 a,.int .i64 b] (fun v=>v=.agg [.int .i64 a,.int .i64 b]):=by
 intro h
 refine ACalls.forget (ACalls.of tab mixed Tryd.call12 Tryd.func12 rfl (fi:=⟨8,[4],[],none,[]⟩) rfl rfl (Nat.le_of_ble_eq_true rfl) (by decide) ?_)
 unfold startA
 repeat' (first|refine st_seq_reg rfl (by first|(simp only[go_sem];rfl)|rfl) (by first|(simp only[go_sem];rfl)|rfl) ?_|refine st_op ?_|refine st_det rfl (by simp (disch:=omega) only[go_sem,wr_i64];rfl) ?_|refine st_loc rfl (by simp (disch:=omega) only[go_sem,wr_i64];rfl) ?_|refine st_store (by simp (disch:=omega) only[go_sem,wr_i64];rfl) ?_|refine st_nil ?_|refine st_ret ?_)
 simp (disch:=omega) only[AEnd,Tryd.results12,aresK,fin,go_sem,implies_true,true_and,and_true,List.reverse_cons,List.reverse_nil]
def town0:Tw:=⟨[110,80,50],[⟨0,1⟩,⟨1,2⟩,⟨0,2⟩],[⟨60,70,0,0,2,0,[0,1]⟩,⟨20,40,1,2,1,0,[2]⟩],6⟩
def proof0:List Rn:=[⟨1,0,0,0⟩,⟨1,1,0,0⟩,⟨2,0,2,4⟩,⟨3,0,0,0⟩,⟨3,0,0,0⟩]
theorem c4:Pure Tryd.prog 4 [] (fun v=>v=town0.av):=by
 intro h
 refine ACalls.forget (ACalls.of tab mixed Tryd.call4 Tryd.func4 rfl (fi:=⟨15,[0],[1,5,7,11,13],none,[]⟩) rfl rfl (Nat.le_of_ble_eq_true rfl) (by decide) ?_)
 unfold startA
 repeat' (first|refine st_seq_reg rfl (by first|(simp only[go_sem];rfl)|rfl) (by first|(simp only[go_sem];rfl)|rfl) ?_|refine st_op ?_|refine st_det rfl (by simp (disch:=omega) only[go_sem,wr_i64];rfl) ?_|refine st_loc rfl (by simp (disch:=omega) only[go_sem,wr_i64];rfl) ?_|refine st_store (by simp (disch:=omega) only[go_sem,wr_i64];rfl) ?_|(refine st_pureE (by first|(simp (disch:=omega) only[go_sem];rfl)|rfl) rfl (c12 _ _) (by first|(simp only[go_sem];rfl)|rfl) (by intro n;first|(simp (disch:=omega) only[go_sem];rfl)|rfl) ?_;intro n hn)|refine st_nil ?_|refine st_ret ?_)
 simp (disch:=omega) only[AEnd,Tryd.results4,aresK,fin,go_sem,implies_true,true_and,and_true,List.reverse_cons,List.reverse_nil]
 try rfl
theorem c18:Pure Tryd.prog 18 [] (fun v=>v=.lst 4 (proof0.map Rn.row)):=by
 intro h
 refine ACalls.forget (ACalls.of tab mixed Tryd.call18 Tryd.func18 rfl (fi:=⟨7,[],[6],none,[]⟩) rfl rfl (Nat.le_of_ble_eq_true rfl) (by decide) ?_)
 unfold startA
 repeat' (first|refine st_seq_reg rfl (by first|(simp only[go_sem];rfl)|rfl) (by first|(simp only[go_sem];rfl)|rfl) ?_|refine st_op ?_|refine st_det rfl (by simp (disch:=omega) only[go_sem,wr_i64];rfl) ?_|refine st_nil ?_|refine st_ret ?_)
 simp (disch:=omega) only[AEnd,Tryd.results18,aresK,fin,go_sem,implies_true,true_and,and_true,List.reverse_cons,List.reverse_nil]
 try rfl
theorem lds0:ldsR town0 [] 1=.tup [.lst 2 ([((60:Int),(110:Int)),(0,0),(0,0)].map spR),.int .i64 0]:=by
 unfold ldsR
 rw [if_neg (by decide +kernel),if_neg (by decide +kernel)]
 have e:ldR town0 (cls []) 1 town0.rooms.length=[((60:Int),(110:Int)),(0,0),(0,0)].map spR:=by
  show [[AV.int .i64 (ldLo town0 (cls []) 0 1),.int .i64 (ldHi town0 (cls []) 0 1)],[.int .i64 (ldLo town0 (cls []) 1 1),.int .i64 (ldHi town0 (cls []) 1 1)],[.int .i64 (ldLo town0 (cls []) 2 1),.int .i64 (ldHi town0 (cls []) 2 1)]]=_
  rw [show ldLo town0 (cls []) 0 1=60 by decide +kernel,show ldHi town0 (cls []) 0 1=110 by decide +kernel,show ldLo town0 (cls []) 1 1=0 by decide +kernel,show ldHi town0 (cls []) 1 1=0 by decide +kernel,show ldLo town0 (cls []) 2 1=0 by decide +kernel,show ldHi town0 (cls []) 2 1=0 by decide +kernel]
  rfl
 rw [e]
theorem close0:closeV town0=.tup [.lst 1 ([0].map iv),.int .i64 0]:=by
 unfold closeV
 rw [if_neg (by decide +kernel),show clo town0 town0.sts.length=some [0] by decide +kernel]
theorem proved0:provedV town0 0 proof0=.tup [.bool true,.int .i64 0]:=by
 unfold provedV
 rw [if_neg (by decide +kernel),if_neg (by decide),show provedB town0 0 proof0=true by decide +kernel]
theorem way0:wayV town0 [2] 0 2=.tup [.lst 1 ([0,1,2].map iv),.int .i64 0]:=by
 unfold wayV
 rw [if_neg (by decide +kernel),if_neg (by decide),show dst town0 [2] 2 0=some 2 by decide +kernel]
 show AV.tup [.lst 1 ((wayL town0 [2] 2 2 0).map iv),.int .i64 0]=_
 rw [show wayL town0 [2] 2 2 0=[0,1,2] by decide +kernel]
theorem Pure.le {f:FuncId} {args args':List AV} {R:AV→Prop} (hl:VLes args args') (H:Pure Tryd.prog f args' R):Pure Tryd.prog f args R :=
 fun h=>⟨(H h).1,fun c xs hh hv=>(H h).2 c xs hh (hl.rel hv)⟩
theorem le1 {a b:AV} {l r:List AV} (h:VLe a b) (k:VLes l r):VLes (a :: l) (b :: r):=by simp only[VLes];exact ⟨_,_,rfl,h,k⟩
theorem c5:Pure Tryd.prog 5 [] (fun v=>v=.bool true):=by
 have k1:Pure Tryd.prog 9 [town0.av,.nils,.int .i64 1] (fun v=>v=.tup [.lst 2 ([((60:Int),(110:Int)),(0,0),(0,0)].map spR),.int .i64 0]):=by
  have k:=c9 town0 [] 1 (by decide)
  rw [lds0] at k
  exact Pure.le (le1 (VLe.refl _) (le1 (VLe.nils 1) (VLes.refl _))) k
 have k2:=c16 town0
 rw [close0] at k2
 have k3:=c17 town0 0 proof0 (by decide)
 rw [proved0] at k3
 have k4:=c19 town0 [2] 0 2 (by decide)
 rw [way0] at k4
 have e1:=c11 [((60:Int),(110:Int)),(0,0),(0,0)] [((60:Int),(110:Int)),(0,0),(0,0)] (by decide) (by decide)
 rw [decide_eq_true rfl] at e1
 have e2:=c8 [0] [0] (by decide) (by decide)
 rw [decide_eq_true rfl] at e2
 have e3:=c8 [0,1,2] [0,1,2] (by decide) (by decide)
 rw [decide_eq_true rfl] at e3
 intro h
 refine ACalls.forget (ACalls.of tab mixed Tryd.call5 Tryd.func5 rfl (fi:=⟨66,[],[27,53,58,63],none,[]⟩) rfl rfl (Nat.le_of_ble_eq_true rfl) (by decide) ?_)
 unfold startA
 repeat' (first|refine st_seq_reg rfl (by first|(simp only[go_sem];rfl)|rfl) (by first|(simp only[go_sem];rfl)|rfl) ?_|refine st_op ?_|refine st_det rfl (by simp (disch:=omega) only[go_sem,wr_i64];rfl) ?_|(refine st_pureE (by first|(simp (disch:=omega) only[go_sem];rfl)|rfl) rfl (c4) (by first|(simp only[go_sem];rfl)|rfl) (by intro n;first|(simp (disch:=omega) only[go_sem];rfl)|rfl) ?_;intro n hn)|(refine st_pureE (by first|(simp (disch:=omega) only[go_sem];rfl)|rfl) rfl (c18) (by first|(simp only[go_sem];rfl)|rfl) (by intro n;first|(simp (disch:=omega) only[go_sem];rfl)|rfl) ?_;intro n hn)|(refine st_pureE (by first|(simp (disch:=omega) only[go_sem];rfl)|rfl) rfl (k1) (by first|(simp only[go_sem];rfl)|rfl) (by intro n;first|(simp (disch:=omega) only[go_sem];rfl)|rfl) ?_;intro n hn)|(refine st_pureE (by first|(simp (disch:=omega) only[go_sem];rfl)|rfl) rfl (k2) (by first|(simp only[go_sem];rfl)|rfl) (by intro n;first|(simp (disch:=omega) only[go_sem];rfl)|rfl) ?_;intro n hn)|(refine st_pureE (by first|(simp (disch:=omega) only[go_sem];rfl)|rfl) rfl (k3) (by first|(simp only[go_sem];rfl)|rfl) (by intro n;first|(simp (disch:=omega) only[go_sem];rfl)|rfl) ?_;intro n hn)|(refine st_pureE (by first|(simp (disch:=omega) only[go_sem];rfl)|rfl) rfl (k4) (by first|(simp only[go_sem];rfl)|rfl) (by intro n;first|(simp (disch:=omega) only[go_sem];rfl)|rfl) ?_;intro n hn)|(refine st_pureE (by first|(simp (disch:=omega) only[go_sem];rfl)|rfl) rfl (c12 _ _) (by first|(simp only[go_sem];rfl)|rfl) (by intro n;first|(simp (disch:=omega) only[go_sem];rfl)|rfl) ?_;intro n hn)|(refine st_pureE (by first|(simp (disch:=omega) only[go_sem];rfl)|rfl) rfl (e1) (by first|(simp only[go_sem];rfl)|rfl) (by intro n;first|(simp (disch:=omega) only[go_sem];rfl)|rfl) ?_;intro n hn)|(refine st_pureE (by first|(simp (disch:=omega) only[go_sem];rfl)|rfl) rfl (e2) (by first|(simp only[go_sem];rfl)|rfl) (by intro n;first|(simp (disch:=omega) only[go_sem];rfl)|rfl) ?_;intro n hn)|(refine st_pureE (by first|(simp (disch:=omega) only[go_sem];rfl)|rfl) rfl (e3) (by first|(simp only[go_sem];rfl)|rfl) (by intro n;first|(simp (disch:=omega) only[go_sem];rfl)|rfl) ?_;intro n hn)|refine st_gT rfl rfl rfl ?_|refine st_nil ?_|refine st_ret ?_)
 simp (disch:=omega) only[AEnd,Tryd.results5,aresK,fin,go_sem,implies_true,true_and,and_true,List.reverse_cons,List.reverse_nil]
end Go.Proofs.YtoafigpikgigaaaDoor

namespace Go.Proofs.YtoafigpikgigaaaDoor
open Go.Av
attribute [local irreducible] thenA blockA awp awpOps awpD awp1
attribute [local go_sem_proc] Nat.reduceAdd Nat.reduceMul Nat.reduceEqDiff Nat.reduceBEq Nat.reduceLeDiff
attribute [local go_sem_proc ↓] reduceIte
attribute [local go_sem] if_yes if_no
set_option maxHeartbeats 8000000
set_option maxRecDepth 20000
theorem frzss_iv {b:Bid} {k:Blk}:∀ (l:List Int),frzss b k (l.map iv)=l.map iv
 | []=>by simp only[List.map_nil,frzss]
 | x :: l=>by simp only[List.map_cons,frzss,frzss_iv l,iv,frzs,frz]
theorem frzss_sx {b:Bid} {k:Blk}:∀ (l:List Sx),frzss b k (l.map Sx.row)=l.map Sx.row
 | []=>by simp only[List.map_nil,frzss]
 | x :: l=>by simp only[List.map_cons,frzss,frzss_sx l,Sx.row,frzs,frz]
theorem frzss_gp {b:Bid} {k:Blk}:∀ (l:List Gp),frzss b k (l.map Gp.row)=l.map Gp.row
 | []=>by simp only[List.map_nil,frzss]
 | x :: l=>by simp only[List.map_cons,frzss,frzss_gp l,Gp.row,frzs,frz,frzss_iv]
def Fr (h h':AH) (b:Bid) (k:Blk):Prop:=h.clk≤b.1∧b.1 < h'.clk∧h'.at_ b=some k∧(∀ b':Bid,b'.1 < h.clk→h'.at_ b'=h.at_ b')∧h'.lp=h.lp
theorem c4r (h:AH):ACalls Tryd.prog 4 [] h (fun v h'=>∃ b:Bid,v=.agg [.slc b 1 0 3,.lst 2 (town0.sts.map Sx.row),.lst 7 (town0.gs.map Gp.row),.int .i64 6]∧Fr h h' b ⟨1,town0.rooms.map iv⟩):=by
 refine ACalls.of tab mixed Tryd.call4 Tryd.func4 rfl (fi:=⟨15,[0],[5,7,11,13],none,[]⟩) rfl rfl (Nat.le_of_ble_eq_true rfl) (by decide) ?_
 unfold startA
 repeat' (first|refine st_seq_reg rfl (by first|(simp only[go_sem];rfl)|rfl) (by first|(simp only[go_sem];rfl)|rfl) ?_|refine st_reg rfl (by first|(simp only[go_sem];rfl)|rfl) (by first|(simp only[go_sem];rfl)|rfl) ?_|refine st_op ?_|refine st_det rfl (by simp (disch:=omega) only[go_sem,wr_i64];rfl) ?_|refine st_loc rfl (by simp (disch:=omega) only[go_sem,wr_i64];rfl) ?_|refine st_heap rfl (by simp (disch:=omega) only[go_sem,wr_i64];rfl) ?_|refine st_store (by simp (disch:=omega) only[go_sem,wr_i64];rfl) ?_|(refine st_pureE (by first|(simp (disch:=omega) only[go_sem];rfl)|rfl) rfl (c12 _ _) (by first|(simp only[go_sem];rfl)|rfl) (by intro n;first|(simp (disch:=omega) only[go_sem];rfl)|rfl) ?_;intro n hn)|refine st_nil ?_|refine st_tN ?_|refine st_seq ?_|refine st_skip ?_|refine st_ret ?_|refine st_tE ?_|refine st_tR ?_)
 simp (disch:=omega) only[AEnd,Tryd.results4,aresK,fin,go_sem,implies_true,true_and,and_true,List.reverse_cons,List.reverse_nil]
 refine ⟨_,rfl,by dsimp only;omega,by simp only[go_sem];omega,put_same _ _ _,fun b' hb'=>put_ne _ _ (fun e=>by rw [e] at hb';dsimp only at hb';omega),rfl⟩
theorem c4s (h:AH):ACalls Tryd.prog 4 [] h (fun v h'=>∃ b:Bid,v=.agg [.lst 1 (town0.rooms.map iv),.slc b 2 0 3,.lst 7 (town0.gs.map Gp.row),.int .i64 6]∧Fr h h' b ⟨2,town0.sts.map Sx.row⟩):=by
 refine ACalls.of tab mixed Tryd.call4 Tryd.func4 rfl (fi:=⟨15,[0],[1,7,11,13],none,[]⟩) rfl rfl (Nat.le_of_ble_eq_true rfl) (by decide) ?_
 unfold startA
 repeat' (first|refine st_seq_reg rfl (by first|(simp only[go_sem];rfl)|rfl) (by first|(simp only[go_sem];rfl)|rfl) ?_|refine st_reg rfl (by first|(simp only[go_sem];rfl)|rfl) (by first|(simp only[go_sem];rfl)|rfl) ?_|refine st_op ?_|refine st_det rfl (by simp (disch:=omega) only[go_sem,wr_i64];rfl) ?_|refine st_loc rfl (by simp (disch:=omega) only[go_sem,wr_i64];rfl) ?_|refine st_heap rfl (by simp (disch:=omega) only[go_sem,wr_i64];rfl) ?_|refine st_store (by simp (disch:=omega) only[go_sem,wr_i64];rfl) ?_|(refine st_pureE (by first|(simp (disch:=omega) only[go_sem];rfl)|rfl) rfl (c12 _ _) (by first|(simp only[go_sem];rfl)|rfl) (by intro n;first|(simp (disch:=omega) only[go_sem];rfl)|rfl) ?_;intro n hn)|refine st_nil ?_|refine st_tN ?_|refine st_seq ?_|refine st_skip ?_|refine st_ret ?_|refine st_tE ?_|refine st_tR ?_)
 simp (disch:=omega) only[AEnd,Tryd.results4,aresK,fin,go_sem,implies_true,true_and,and_true,List.reverse_cons,List.reverse_nil]
 refine ⟨_,rfl,by dsimp only;omega,by simp only[go_sem];omega,put_same _ _ _,fun b' hb'=>put_ne _ _ (fun e=>by rw [e] at hb';dsimp only at hb';omega),rfl⟩
theorem c4g (h:AH):ACalls Tryd.prog 4 [] h (fun v h'=>∃ b:Bid,v=.agg [.lst 1 (town0.rooms.map iv),.lst 2 (town0.sts.map Sx.row),.slc b 7 0 2,.int .i64 6]∧Fr h h' b ⟨7,town0.gs.map Gp.row⟩):=by
 refine ACalls.of tab mixed Tryd.call4 Tryd.func4 rfl (fi:=⟨15,[0],[1,5,7,11],none,[]⟩) rfl rfl (Nat.le_of_ble_eq_true rfl) (by decide) ?_
 unfold startA
 repeat' (first|refine st_seq_reg rfl (by first|(simp only[go_sem];rfl)|rfl) (by first|(simp only[go_sem];rfl)|rfl) ?_|refine st_reg rfl (by first|(simp only[go_sem];rfl)|rfl) (by first|(simp only[go_sem];rfl)|rfl) ?_|refine st_op ?_|refine st_det rfl (by simp (disch:=omega) only[go_sem,wr_i64];rfl) ?_|refine st_loc rfl (by simp (disch:=omega) only[go_sem,wr_i64];rfl) ?_|refine st_heap rfl (by simp (disch:=omega) only[go_sem,wr_i64];rfl) ?_|refine st_store (by simp (disch:=omega) only[go_sem,wr_i64];rfl) ?_|(refine st_pureE (by first|(simp (disch:=omega) only[go_sem];rfl)|rfl) rfl (c12 _ _) (by first|(simp only[go_sem];rfl)|rfl) (by intro n;first|(simp (disch:=omega) only[go_sem];rfl)|rfl) ?_;intro n hn)|refine st_nil ?_|refine st_tN ?_|refine st_seq ?_|refine st_skip ?_|refine st_ret ?_|refine st_tE ?_|refine st_tR ?_)
 simp (disch:=omega) only[AEnd,Tryd.results4,aresK,fin,go_sem,implies_true,true_and,and_true,List.reverse_cons,List.reverse_nil]
 refine ⟨_,rfl,by dsimp only;omega,by simp only[go_sem];omega,put_same _ _ _,fun b' hb'=>put_ne _ _ (fun e=>by rw [e] at hb';dsimp only at hb';omega),rfl⟩
def roomy0 (rs:List Int):Tw:=⟨rs,town0.sts,town0.gs,6⟩
theorem c27 (s r:Int) (hs:0≤s∧s < 3):Pure Tryd.prog 27 [.int .i64 s,.int .i64 r] (fun v=>v=(roomy0 (town0.rooms.set s.toNat r)).av):=by
 refine Pure.give Tryd.call27 fun h hall=>?_
 refine ACalls.of tab mixed Tryd.call27 Tryd.func27 rfl (fi:=⟨13,[4,5],[],none,[]⟩) rfl rfl (Nat.le_of_ble_eq_true rfl) (by decide) ?_
 unfold startA
 try simp only[go_sem]
 have hl3:town0.rooms.length=3:=rfl
 repeat' (first|refine st_seq_reg rfl (by first|(simp only[go_sem];rfl)|rfl) (by first|(simp only[go_sem];rfl)|rfl) ?_|refine st_reg rfl (by first|(simp only[go_sem];rfl)|rfl) (by first|(simp only[go_sem];rfl)|rfl) ?_|refine st_op ?_|refine st_det rfl (by simp (disch:=omega) only[go_sem,wr_i64];rfl) ?_|refine st_loc rfl (by simp (disch:=omega) only[go_sem,wr_i64];rfl) ?_|refine st_heap rfl (by simp (disch:=omega) only[go_sem,wr_i64];rfl) ?_|refine st_store (by simp (disch:=omega) only[go_sem,wr_i64];rfl) ?_|(refine st_callf rfl rfl (c4r _) ?_;rintro v h' ⟨b,rfl,f1,f2,f3,f4,f5⟩)|refine st_nil ?_|refine st_tN ?_|refine st_seq ?_|refine st_skip ?_|refine st_ret ?_|refine st_tE ?_|refine st_tR ?_)
 simp only[go_sem] at f1 f4 f5
 repeat' (first|refine st_seq_reg rfl (by first|(simp only[go_sem,f3,length_map,hl3];rfl)|rfl) (by first|(simp only[go_sem,f3,length_map,hl3];rfl)|rfl) ?_|refine st_reg rfl (by first|(simp only[go_sem,f3,length_map,hl3];rfl)|rfl) (by first|(simp only[go_sem,f3,length_map,hl3];rfl)|rfl) ?_|refine st_op ?_|refine st_det rfl (by simp (disch:=omega) only[go_sem,wr_i64,f3,length_map,hl3];rfl) ?_|refine st_loc rfl (by simp (disch:=omega) only[go_sem,wr_i64,f3,length_map,hl3];rfl) ?_|refine st_heap rfl (by simp (disch:=omega) only[go_sem,wr_i64,f3,length_map,hl3];rfl) ?_|refine st_store (by simp (disch:=omega) only[go_sem,wr_i64,f3,length_map,hl3];rfl) ?_|refine st_nil ?_|refine st_tN ?_|refine st_seq ?_|refine st_skip ?_|refine st_ret ?_|refine st_tE ?_|refine st_tR ?_)
 all_goals try (exfalso;omega)
 simp (disch:=omega) only[AEnd,Tryd.results27,aresK,fin,go_sem,implies_true,true_and,and_true,List.reverse_cons,List.reverse_nil]
 refine ⟨fun b' hb'=>?_,f5,.inr ⟨b,⟨1,(town0.rooms.set s.toNat r).map iv⟩,by omega,?_,?_⟩⟩
 ·rw [if_neg (fun e=>by rw [e] at hb';omega)];exact f4 b' (by omega)
 ·rw [if_pos rfl,Nat.zero_add,List.map_set];rfl
 ·have e:((town0.rooms.set s.toNat r).map iv).length=3:=by simp [hl3]
  simp only[frz,frzs,frzss_sx,frzss_gp]
  rw [if_pos ⟨trivial,by rw [e];decide⟩,List.drop_zero,← e,List.take_length]
  rfl
end Go.Proofs.YtoafigpikgigaaaDoor

namespace Go.Proofs.YtoafigpikgigaaaDoor
open Go.Av
set_option maxRecDepth 20000
def whN (t:Tw) (s:Nat→Int) (g:Gp) (st:Int):Nat→List Int
 | 0=>[]
 | i+1=>whN t s g st i ++ if someB t s g (i:Nat) st=true then [((i:Nat):Int)] else []
theorem whN_len {t:Tw} {s:Nat→Int} {g:Gp} {st:Int}:∀ i,(whN t s g st i).length≤i
 | 0=>Nat.le_refl _
 | i+1=>by
  have:=whN_len (t:=t) (s:=s) (g:=g) (st:=st) i
  show (whN t s g st i ++ _).length≤_
  rw [List.length_append];split <;> simp <;> omega
def whV (t:Tw) (c:List Int) (g st:Int):AV :=
 if cloE t c ≠ 0 then .tup [.lst 1 [],.bool false,.int .i64 (cloE t c)]
 else if ¬ (0≤g∧g < t.gs.length) then .tup [.lst 1 [],.bool false,.int .i64 7]
 else if ¬ (0≤st∧st≤t.steps) then .tup [.lst 1 [],.bool false,.int .i64 2]
 else .tup [.lst 1 ((whN t (cls c) (gp t.gs g.toNat) st t.rooms.length).map iv),.bool (someB t (cls c) (gp t.gs g.toNat) (-1) st),.int .i64 0]
end Go.Proofs.YtoafigpikgigaaaDoor
