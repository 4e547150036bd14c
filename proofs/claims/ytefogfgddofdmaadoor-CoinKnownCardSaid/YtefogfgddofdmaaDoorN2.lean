/- Contracts of functions that the claim reaches: what each call gives, told in our own logic. Conditions: those of each theorem. -/
import Derived.Test.YtefogfgddofdmaaDoorG7
import Derived.Test.YtefogfgddofdmaaDoorP12
import Derived.Test.YtefogfgddofdmaaDoorG45
open List (length_map)
set_option linter.all false
set_option linter.unusedSimpArgs false
set_option linter.unusedVariables false
namespace Go.Proofs.YtefogfgddofdmaaDoor
open Go.Av Go.Txt Go.Lib
attribute [local irreducible] thenA blockA awp awpOps awpD awp1
attribute [local go_sem_proc] Nat.reduceAdd Nat.reduceMul Nat.reduceEqDiff Nat.reduceBEq Nat.reduceLeDiff
attribute [local go_sem_proc ↓] reduceIte
attribute [local go_sem] if_yes if_no
set_option maxHeartbeats 16000000
set_option maxRecDepth 20000
theorem Pure.le {f:FuncId} {args args':List AV} {R:AV→Prop} (hl:VLes args args') (H:Pure Tryd.prog f args' R):Pure Tryd.prog f args R :=
 fun h=>⟨(H h).1,fun c xs hh hv=>(H h).2 c xs hh (hl.rel hv)⟩
theorem frzss_iv {b:Bid} {k:Blk}:∀ (l:List Int),frzss b k (l.map iv)=l.map iv
 | []=>by simp only[List.map_nil,frzss]
 | x :: l=>by simp only[List.map_cons,frzss,frzss_iv l,iv,frzs,frz]
theorem frzss_fd {b:Bid} {k:Blk}:∀ (l:List Fd),frzss b k (l.map Fd.row)=l.map Fd.row
 | []=>by simp only[List.map_nil,frzss]
 | x :: l=>by simp only[List.map_cons,frzss,frzss_fd l,Fd.row,frzs,frz,frzss_iv]
theorem frzss_bl {b:Bid} {k:Blk}:∀ (l:List Bl),frzss b k (l.map Bl.row)=l.map Bl.row
 | []=>by simp only[List.map_nil,frzss]
 | x :: l=>by simp only[List.map_cons,frzss,frzss_bl l,Bl.row,frzs,frz]
def Fr (h h':AH) (b:Bid) (k:Blk):Prop:=h.clk≤b.1∧b.1 < h'.clk∧h'.at_ b=some k∧(∀ b':Bid,b'.1 < h.clk→h'.at_ b'=h.at_ b')∧h'.lp=h.lp
def tr0:List (List Int):=[[200,400,0],[800,0,100],[0,0,200]]
theorem c4f (h:AH):ACalls Tryd.prog 4 [] h (fun v h'=>∃ b:Bid,v=.agg [.slc b 4 0 3,.lst 3 ((bs0 900).map Bl.row)]∧Fr h h' b ⟨4,fs0.map Fd.row⟩):=by
 refine ACalls.of tab mixed Tryd.call4 Tryd.func4 rfl (fi:=⟨13,[0],[1,3,5,11],none,[]⟩) rfl rfl (Nat.le_of_ble_eq_true rfl) (by decide) ?_
 unfold startA
 try simp only[go_sem]
 repeat' (first|refine st_seq_reg rfl (by first|(simp only[go_sem];rfl)|rfl) (by first|(simp only[go_sem];rfl)|rfl) ?_|refine st_reg rfl (by first|(simp only[go_sem];rfl)|rfl) (by first|(simp only[go_sem];rfl)|rfl) ?_|refine st_op ?_|refine st_det rfl (by simp (disch:=omega) only[go_sem,wr_i64];rfl) ?_|refine st_loc rfl (by simp (disch:=omega) only[go_sem,wr_i64];rfl) ?_|refine st_heap rfl (by simp (disch:=omega) only[go_sem,wr_i64];rfl) ?_|refine st_store (by simp (disch:=omega) only[go_sem,wr_i64];rfl) ?_|refine st_nil ?_|refine st_tN ?_|refine st_seq ?_|refine st_skip ?_|refine st_ret ?_|refine st_tE ?_|refine st_tR ?_)
 simp (disch:=omega) only[AEnd,Tryd.results4,aresK,fin,go_sem,implies_true,true_and,and_true,List.reverse_cons,List.reverse_nil]
 refine ⟨_,rfl,by dsimp only;omega,by simp only[go_sem];omega,put_same _ _ _,fun b' hb'=>put_ne _ _ (fun e=>by rw [e] at hb';dsimp only at hb';omega),rfl⟩
theorem c4b (h:AH):ACalls Tryd.prog 4 [] h (fun v h'=>∃ b:Bid,v=.agg [.lst 4 (fs0.map Fd.row),.slc b 3 0 3]∧Fr h h' b ⟨3,(bs0 900).map Bl.row⟩):=by
 refine ACalls.of tab mixed Tryd.call4 Tryd.func4 rfl (fi:=⟨13,[0],[1,3,5,7],none,[]⟩) rfl rfl (Nat.le_of_ble_eq_true rfl) (by decide) ?_
 unfold startA
 try simp only[go_sem]
 repeat' (first|refine st_seq_reg rfl (by first|(simp only[go_sem];rfl)|rfl) (by first|(simp only[go_sem];rfl)|rfl) ?_|refine st_reg rfl (by first|(simp only[go_sem];rfl)|rfl) (by first|(simp only[go_sem];rfl)|rfl) ?_|refine st_op ?_|refine st_det rfl (by simp (disch:=omega) only[go_sem,wr_i64];rfl) ?_|refine st_loc rfl (by simp (disch:=omega) only[go_sem,wr_i64];rfl) ?_|refine st_heap rfl (by simp (disch:=omega) only[go_sem,wr_i64];rfl) ?_|refine st_store (by simp (disch:=omega) only[go_sem,wr_i64];rfl) ?_|refine st_nil ?_|refine st_tN ?_|refine st_seq ?_|refine st_skip ?_|refine st_ret ?_|refine st_tE ?_|refine st_tR ?_)
 simp (disch:=omega) only[AEnd,Tryd.results4,aresK,fin,go_sem,implies_true,true_and,and_true,List.reverse_cons,List.reverse_nil]
 refine ⟨_,rfl,by dsimp only;omega,by simp only[go_sem];omega,put_same _ _ _,fun b' hb'=>put_ne _ _ (fun e=>by rw [e] at hb';dsimp only at hb';omega),rfl⟩
theorem c11a (h:AH):ACalls Tryd.prog 11 [] h (fun v h'=>∃ b:Bid,v=.lst 1 [[.slc b 1 0 3],[.lst 1 (([800,0,100]:List Int).map iv)],[.lst 1 (([0,0,200]:List Int).map iv)]]∧Fr h h' b ⟨1,([200,400,0]:List Int).map iv⟩):=by
 refine ACalls.of tab mixed Tryd.call11 Tryd.func11 rfl (fi:=⟨5,[],[2,3,4],none,[]⟩) rfl rfl (Nat.le_of_ble_eq_true rfl) (by decide) ?_
 unfold startA
 try simp only[go_sem]
 repeat' (first|refine st_seq_reg rfl (by first|(simp only[go_sem];rfl)|rfl) (by first|(simp only[go_sem];rfl)|rfl) ?_|refine st_reg rfl (by first|(simp only[go_sem];rfl)|rfl) (by first|(simp only[go_sem];rfl)|rfl) ?_|refine st_op ?_|refine st_det rfl (by simp (disch:=omega) only[go_sem,wr_i64];rfl) ?_|refine st_heap rfl (by simp (disch:=omega) only[go_sem,wr_i64];rfl) ?_|refine st_nil ?_|refine st_tN ?_|refine st_seq ?_|refine st_skip ?_|refine st_ret ?_|refine st_tE ?_|refine st_tR ?_)
 simp (disch:=omega) only[AEnd,Tryd.results11,aresK,fin,go_sem,implies_true,true_and,and_true,List.reverse_cons,List.reverse_nil]
 refine ⟨_,rfl,by dsimp only;omega,by simp only[go_sem];omega,put_same _ _ _,fun b' hb'=>put_ne _ _ (fun e=>by rw [e] at hb';dsimp only at hb';omega),rfl⟩
theorem c11b (h:AH):ACalls Tryd.prog 11 [] h (fun v h'=>∃ b:Bid,v=.slc b 1 0 3∧Fr h h' b ⟨1,tr0.map rowA⟩):=by
 refine ACalls.of tab mixed Tryd.call11 Tryd.func11 rfl (fi:=⟨5,[],[1,2,3],none,[]⟩) rfl rfl (Nat.le_of_ble_eq_true rfl) (by decide) ?_
 unfold startA
 try simp only[go_sem]
 repeat' (first|refine st_seq_reg rfl (by first|(simp only[go_sem];rfl)|rfl) (by first|(simp only[go_sem];rfl)|rfl) ?_|refine st_reg rfl (by first|(simp only[go_sem];rfl)|rfl) (by first|(simp only[go_sem];rfl)|rfl) ?_|refine st_op ?_|refine st_det rfl (by simp (disch:=omega) only[go_sem,wr_i64];rfl) ?_|refine st_heap rfl (by simp (disch:=omega) only[go_sem,wr_i64];rfl) ?_|refine st_nil ?_|refine st_tN ?_|refine st_seq ?_|refine st_skip ?_|refine st_ret ?_|refine st_tE ?_|refine st_tR ?_)
 simp (disch:=omega) only[AEnd,Tryd.results11,aresK,fin,go_sem,implies_true,true_and,and_true,List.reverse_cons,List.reverse_nil]
 refine ⟨_,rfl,by dsimp only;omega,by simp only[go_sem];omega,put_same _ _ _,fun b' hb'=>put_ne _ _ (fun e=>by rw [e] at hb';dsimp only at hb';omega),rfl⟩
end Go.Proofs.YtefogfgddofdmaaDoor

namespace Go.Proofs.YtefogfgddofdmaaDoor
open Go.Av Go.Txt Go.Lib
attribute [local irreducible] thenA blockA awp awpOps awpD awp1
attribute [local go_sem_proc] Nat.reduceAdd Nat.reduceMul Nat.reduceEqDiff Nat.reduceBEq Nat.reduceLeDiff
attribute [local go_sem_proc ↓] reduceIte
attribute [local go_sem] if_yes if_no
set_option maxHeartbeats 16000000
set_option maxRecDepth 20000
theorem fl_getD {l:List Fl} {i:Nat} (h:i < l.length):∃ x:Fl,(l.map Fl.row).getD i []=x.row:=by
 rw [List.getD_eq_getElem?_getD,List.getElem?_map,List.getElem?_eq_getElem h]
 exact ⟨l[i],rfl⟩
theorem c13s (l:List Fl) (hl:l.length < 1000000):Pure Tryd.prog 13 [.lst 3 (l.map Fl.row),.lst 3 (l.map Fl.row)] (fun v=>v=.bool true):=by
 intro h
 refine ACalls.forget (ACalls.of tab mixed Tryd.call13 Tryd.func13 rfl (fi:=⟨31,[],[],none,[(5,[0,0,3,7,0,0,48,112,255,511],[(0,false),(1,false),(2,false),(3,true),(4,false),(5,false),(6,false),(7,true),(8,false),(9,false)])]⟩) rfl rfl (Nat.le_of_ble_eq_true rfl) (by decide) ?_)
 unfold startA
 repeat' (first|refine st_seq_reg rfl (by first|(simp only[go_sem,Lm];rfl)|rfl) (by first|(simp only[go_sem,Lm];rfl)|rfl) ?_|refine st_reg rfl (by first|(simp only[go_sem,Lm];rfl)|rfl) (by first|(simp only[go_sem,Lm];rfl)|rfl) ?_|refine st_seq_draw rfl (by first|(simp only[go_sem,Lm];rfl)|rfl) (by first|(simp only[go_sem,Lm];rfl)|rfl) ?_|refine st_draw rfl (by first|(simp only[go_sem,Lm];rfl)|rfl) (by first|(simp only[go_sem,Lm];rfl)|rfl) ?_|refine st_op ?_|refine st_det rfl (by simp (disch:=omega) only[go_sem,wr_i64,Lm];rfl) ?_|refine st_dop rfl ?_|refine st_gT rfl rfl rfl ?_|refine st_gF rfl rfl rfl ?_|refine st_dgT rfl rfl rfl rfl ?_|refine st_dgF rfl rfl rfl ?_|(refine st_gS rfl rfl ?_ ?_ <;> intro hg <;> (try simp only[dcT,dcF,bnT,bnF] at hg))|(refine st_dgS rfl rfl ?_ ?_ <;> intro hg <;> (try simp only[dcT,dcF,bnT,bnF] at hg))|refine st_condT rfl ?_|refine st_condF rfl ?_|(refine st_condS rfl ?_ ?_ <;> intro hg <;> (try simp only[dcT,dcF,bnT,bnF] at hg))|refine st_nil ?_|refine st_dnil ?_|refine st_tN ?_|refine st_seq ?_|refine st_block ?_|refine st_skip ?_|refine st_exit ?_|refine st_ret ?_|refine st_tE ?_|refine st_tR ?_|refine st_bN ?_|refine st_bR ?_|refine st_bH ?_|refine st_bM rfl ?_)
 all_goals try (exfalso;omega)
 refine st_loopC (α:=Nat) tab mixed [] [] (by repeat (first|exact trivial|refine ⟨rfl,?_⟩)) [] [] (by repeat (first|exact trivial|refine ⟨rfl,?_⟩)) (fun i=>[(6,.int .i64 (i:Nat)),(5,.bool true)]) [(0,_),(1,_)] (fun _=>[]) [] (fun i=>i≤l.length) (fun i=>l.length - i) (by decide) 0 (Nat.zero_le _) (by (try simp only[go_sem]);repeat' (first|exact trivial|refine And.intro ?_ ?_|rfl|(simp (disch:=omega) only[go_sem,if_yes,if_no,if_no];rfl)|(simp (disch:=omega) only[go_sem,if_yes,if_no,if_no]))) (by (try simp only[go_sem]);repeat' (first|exact trivial|refine And.intro ?_ ?_|rfl|(simp (disch:=omega) only[go_sem,if_yes,if_no,if_no];rfl)|(simp (disch:=omega) only[go_sem,if_yes,if_no,if_no]))) (by first|(simp only[go_sem];rfl)|rfl) (by intro n;simp only[go_sem];rfl) ?_
 rintro i c i1 hc
 simp only[go_sem]
 by_cases hi:i < l.length
 ·obtain ⟨x,hx⟩:=fl_getD hi
  repeat' (first|refine st_seq_reg rfl (by first|(simp only[go_sem,Lm,hx];rfl)|rfl) (by first|(simp only[go_sem,Lm,hx];rfl)|rfl) ?_|refine st_reg rfl (by first|(simp only[go_sem,Lm,hx];rfl)|rfl) (by first|(simp only[go_sem,Lm,hx];rfl)|rfl) ?_|refine st_seq_draw rfl (by first|(simp only[go_sem,Lm,hx];rfl)|rfl) (by first|(simp only[go_sem,Lm,hx];rfl)|rfl) ?_|refine st_draw rfl (by first|(simp only[go_sem,Lm,hx];rfl)|rfl) (by first|(simp only[go_sem,Lm,hx];rfl)|rfl) ?_|refine st_op ?_|refine st_det rfl (by simp (disch:=omega) only[go_sem,wr_i64,Lm,hx];rfl) ?_|refine st_dop rfl ?_|refine st_gT rfl rfl rfl ?_|refine st_gF rfl rfl rfl ?_|refine st_dgT rfl rfl rfl rfl ?_|refine st_dgF rfl rfl rfl ?_|(refine st_gS rfl rfl ?_ ?_ <;> intro hg <;> (try simp only[dcT,dcF,bnT,bnF] at hg))|(refine st_dgS rfl rfl ?_ ?_ <;> intro hg <;> (try simp only[dcT,dcF,bnT,bnF] at hg))|refine st_condT rfl ?_|refine st_condF rfl ?_|(refine st_condS rfl ?_ ?_ <;> intro hg <;> (try simp only[dcT,dcF,bnT,bnF] at hg))|refine st_nil ?_|refine st_dnil ?_|refine st_tN ?_|refine st_seq ?_|refine st_block ?_|refine st_skip ?_|refine st_exit ?_|refine st_ret ?_|refine st_tE ?_|refine st_tR ?_|refine st_bN ?_|refine st_bR ?_|refine st_bH ?_|refine st_bM rfl ?_)
  all_goals try (exfalso;omega)
  refine ⟨i+1,(by show i+1≤l.length;omega),by show l.length - (i+1) < l.length - i;omega,(by repeat' (first|exact trivial|refine And.intro ?_ ?_|rfl|(simp (disch:=omega) only[go_sem,if_yes,if_no,if_no];rfl)|(simp (disch:=omega) only[go_sem,if_yes,if_no,if_no]))),(by repeat' (first|exact trivial|refine And.intro ?_ ?_|rfl|(simp (disch:=omega) only[go_sem,if_yes,if_no,if_no];rfl)|(simp (disch:=omega) only[go_sem,if_yes,if_no,if_no]))),rfl,(by first|exact HOld.of _ (by omega)|exact HOld.put _ _ _ (by omega))⟩
 ·repeat' (first|refine st_seq_reg rfl (by first|(simp only[go_sem,Lm];rfl)|rfl) (by first|(simp only[go_sem,Lm];rfl)|rfl) ?_|refine st_reg rfl (by first|(simp only[go_sem,Lm];rfl)|rfl) (by first|(simp only[go_sem,Lm];rfl)|rfl) ?_|refine st_seq_draw rfl (by first|(simp only[go_sem,Lm];rfl)|rfl) (by first|(simp only[go_sem,Lm];rfl)|rfl) ?_|refine st_draw rfl (by first|(simp only[go_sem,Lm];rfl)|rfl) (by first|(simp only[go_sem,Lm];rfl)|rfl) ?_|refine st_op ?_|refine st_det rfl (by simp (disch:=omega) only[go_sem,wr_i64,Lm];rfl) ?_|refine st_dop rfl ?_|refine st_gT rfl rfl rfl ?_|refine st_gF rfl rfl rfl ?_|refine st_dgT rfl rfl rfl rfl ?_|refine st_dgF rfl rfl rfl ?_|(refine st_gS rfl rfl ?_ ?_ <;> intro hg <;> (try simp only[dcT,dcF,bnT,bnF] at hg))|(refine st_dgS rfl rfl ?_ ?_ <;> intro hg <;> (try simp only[dcT,dcF,bnT,bnF] at hg))|refine st_condT rfl ?_|refine st_condF rfl ?_|(refine st_condS rfl ?_ ?_ <;> intro hg <;> (try simp only[dcT,dcF,bnT,bnF] at hg))|refine st_nil ?_|refine st_dnil ?_|refine st_tN ?_|refine st_seq ?_|refine st_block ?_|refine st_skip ?_|refine st_exit ?_|refine st_ret ?_|refine st_tE ?_|refine st_tR ?_|refine st_bN ?_|refine st_bR ?_|refine st_bH ?_|refine st_bM rfl ?_)
  all_goals try (exfalso;omega)
  simp (disch:=omega) only[AEnd,Tryd.results13,aresK,fin,go_sem,implies_true,true_and,and_true,List.reverse_cons,List.reverse_nil]
def lgU:Lg:=⟨[⟨1,0,1000,[0,1]⟩,⟨5,20,500,[1]⟩,⟨0,40,300,[0,1,2]⟩],bs0 900⟩
def lgV:Lg:=⟨[⟨0,30,1000,[1,0]⟩,⟨5,20,500,[1]⟩,⟨0,40,300,[0,1,2]⟩],bs0 900⟩
def lgW:Lg:=⟨fs0,[⟨10,8,600⟩,⟨15,0,900⟩,⟨35,2,200⟩]⟩
def lgX:Lg:=⟨fs0,[⟨10,1,600⟩,⟨15,0,900⟩,⟨41,2,200⟩]⟩
theorem x_0:chkE (lg0 900)=0:=by decide +kernel
theorem x_U:chkE lgU=9:=by decide +kernel
theorem x_V:chkE lgV=9:=by decide +kernel
theorem x_W:chkE lgW=2:=by decide +kernel
theorem t_d:Pure Tryd.prog 7 [(lg0 1101).av] (fun v=>v=.tup [.nils,.int .i64 4]):=by
 have e:trcR (lg0 1101)=fun v=>v=.tup [.nils,.int .i64 4]:=by
  funext v;unfold trcR;rw [if_neg (by rw [v1.1];decide),if_pos (by rw [v1.2.1];simp)]
 have h:=c7 (lg0 1101)
 rw [e] at h;exact h
theorem s_l:Pure Tryd.prog 9 [(lg0 900).av] (fun v=>v=.tup [.nils,.int .i64 7]):=by
 have e:shoR (lg0 900)=fun v=>v=.tup [.nils,.int .i64 7]:=by
  funext v;unfold shoR;rw [if_neg (by rw [v0.1];decide),v0.2.1]
 have h:=c9 (lg0 900)
 rw [e] at h;exact h
theorem s_x:Pure Tryd.prog 9 [lgX.av] (fun v=>v=.tup [.lst 1 (([2]:List Int).map iv),.int .i64 0]):=by
 have e:shoR lgX=fun v=>v=.tup [.lst 1 (([2]:List Int).map iv),.int .i64 0]:=by
  obtain ⟨s,hs⟩:∃ s,prf lgX=some s:=Option.isSome_iff_exists.1 (by decide +kernel)
  have hb:bitsL lgX ((prf lgX).getD 0) 3=[2]:=by decide +kernel
  rw [hs] at hb
  funext v;unfold shoR;rw [if_neg (by decide +kernel),hs];show (v=.tup [.lst 1 ((bitsL lgX s 3).map iv),.int .i64 0])=_;rw [show bitsL lgX s 3=[2] from hb]
 have h:=c9 lgX
 rw [e] at h;exact h
def trL:List (List Int):=[[100,400,0],[800,0,100],[0,0,200]]
def trO:List (List Int):=[[200,400,0],[800,0,100],[200,0,0]]
def flwA:List Fl:=[⟨1,0,0⟩]
def flwB:List Fl:=[⟨2,2,0⟩,⟨3,0,0⟩]
theorem a_0:Pure Tryd.prog 12 [(lg0 900).av,.lst 1 (tr0.map rowA)] (fun v=>v=.tup [.lst 3 [],.int .i64 0]):=by
 have h:=c12 (lg0 900) tr0 (by decide) (by decide)
 unfold audR at h
 rw [show audL (lg0 900) tr0=[] by decide +kernel,show audE (lg0 900) tr0=0 by decide +kernel] at h
 exact h
theorem a_L:Pure Tryd.prog 12 [(lg0 900).av,.lst 1 (trL.map rowA)] (fun v=>v=.tup [.lst 3 (flwA.map Fl.row),.int .i64 0]):=by
 have h:=c12 (lg0 900) trL (by decide) (by decide)
 unfold audR at h
 rw [show audL (lg0 900) trL=flwA by kernel_rfl,show audE (lg0 900) trL=0 by decide +kernel] at h
 exact h
theorem a_O:Pure Tryd.prog 12 [(lg0 900).av,.lst 1 (trO.map rowA)] (fun v=>v=.tup [.lst 3 (flwB.map Fl.row),.int .i64 0]):=by
 have h:=c12 (lg0 900) trO (by decide) (by decide)
 unfold audR at h
 rw [show audL (lg0 900) trO=flwB by kernel_rfl,show audE (lg0 900) trO=0 by decide +kernel] at h
 exact h
theorem v3:loN (lg0 900) 0 8=900∧min 1000 (sumF (spF (lg0 900) 0) 3)=1000∧loN (lg0 900) 2 8=200∧min 300 (sumF (spF (lg0 900) 2) 3)=300:=by decide +kernel
theorem p_0:Pure Tryd.prog 14 [(lg0 900).av,.int .i64 0] (fun v=>v=.tup [.agg [.int .i64 900,.int .i64 1000],.int .i64 0]):=by
 have e:spnR (lg0 900) 0=fun v=>v=.tup [.agg [.int .i64 900,.int .i64 1000],.int .i64 0]:=by
  funext v;unfold spnR;rw [if_neg (by rw [v0.1];decide),if_neg (by decide),if_neg (by rw [v0.2.1];simp)]
  show (v=.tup [.agg [.int .i64 (loN (lg0 900) 0 8),.int .i64 (min 1000 (sumF (spF (lg0 900) 0) 3))],.int .i64 0])=_
  rw [v3.1,v3.2.1]
 have h:=c14 (lg0 900) 0 (by decide)
 rw [e] at h;exact h
theorem p_2:Pure Tryd.prog 14 [(lg0 900).av,.int .i64 2] (fun v=>v=.tup [.agg [.int .i64 200,.int .i64 300],.int .i64 0]):=by
 have e:spnR (lg0 900) 2=fun v=>v=.tup [.agg [.int .i64 200,.int .i64 300],.int .i64 0]:=by
  funext v;unfold spnR;rw [if_neg (by rw [v0.1];decide),if_neg (by decide),if_neg (by rw [v0.2.1];simp)]
  show (v=.tup [.agg [.int .i64 (loN (lg0 900) 2 8),.int .i64 (min 300 (sumF (spF (lg0 900) 2) 3))],.int .i64 0])=_
  rw [v3.2.2.1,v3.2.2.2]
 have h:=c14 (lg0 900) 2 (by decide)
 rw [e] at h;exact h
theorem b_x (d n:Int) (h1:balN (lg0 900) d=n) (h2:balE (lg0 900) d=0):Pure Tryd.prog 16 [(lg0 900).av,.int .i64 d] (fun v=>v=.tup [.int .i64 n,.int .i64 0]):=by
 have h:=c16 (lg0 900) d
 rw [h1,h2] at h;exact h
theorem b_4:Pure Tryd.prog 16 [(lg0 900).av,.int .i64 4] (fun v=>v=.tup [.int .i64 1300,.int .i64 0]):=b_x _ _ (by decide +kernel) (by decide +kernel)
theorem b_10:Pure Tryd.prog 16 [(lg0 900).av,.int .i64 10] (fun v=>v=.tup [.int .i64 1200,.int .i64 0]):=b_x _ _ (by decide +kernel) (by decide +kernel)
theorem b_40:Pure Tryd.prog 16 [(lg0 900).av,.int .i64 40] (fun v=>v=.tup [.int .i64 100,.int .i64 0]):=b_x _ _ (by decide +kernel) (by decide +kernel)
theorem d_1:Pure Tryd.prog 17 [.lst 1 (([3,0,2]:List Int).map iv),.lst 1 (([0,0,0]:List Int).map iv)] (fun v=>v=.tup [.int .i64 0,.int .i64 0,.int .i64 0]):=by
 have h:=c17v [3,0,2] [0,0,0] (by decide) (by decide)
 rw [show drwT [3,0,2] [0,0,0]=0 by decide +kernel,show drwH [3,0,2] [0,0,0]=0 by decide +kernel,show drwE [3,0,2] [0,0,0]=0 by decide +kernel] at h
 exact h
theorem d_2:Pure Tryd.prog 17 [.lst 1 (([0,0]:List Int).map iv),.lst 1 (([1,1]:List Int).map iv)] (fun v=>v=.tup [.int .i64 0,.int .i64 0,.int .i64 4]):=by
 have h:=c17v [0,0] [1,1] (by decide) (by decide)
 rw [show drwT [0,0] [1,1]=0 by decide +kernel,show drwH [0,0] [1,1]=0 by decide +kernel,show drwE [0,0] [1,1]=4 by decide +kernel] at h
 exact h
theorem x_w:bookT (lg0 900)=[102,117,110,100,32,48,32,51,48,32,49,48,48,48,32,48,32,49,10,102,117,110,100,32,53,32,50,48,32,53,48,48,32,49,10,102,117,110,100,32,48,32,52,48,32,51,48,48,32,48,32,49,32,50,10,98,105,108,108,32,49,48,32,49,32,54,48,48,10,98,105,108,108,32,49,53,32,48,32,57,48,48,10,98,105,108,108,32,51,53,32,50,32,50,48,48,10,101,110,100,32,51,10]:=by decide +kernel
theorem x_wr:wrV (lg0 900)=.tup [.str [102,117,110,100,32,48,32,51,48,32,49,48,48,48,32,48,32,49,10,102,117,110,100,32,53,32,50,48,32,53,48,48,32,49,10,102,117,110,100,32,48,32,52,48,32,51,48,48,32,48,32,49,32,50,10,98,105,108,108,32,49,48,32,49,32,54,48,48,10,98,105,108,108,32,49,53,32,48,32,57,48,48,10,98,105,108,108,32,51,53,32,50,32,50,48,48,10,101,110,100,32,51,10],.int .i64 0]:=by unfold wrV;rw [if_pos x_0,x_w]
end Go.Proofs.YtefogfgddofdmaaDoor
