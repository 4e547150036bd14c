/- Contracts of functions that the claim reaches: what each call gives, told in our own logic. Conditions: those of each theorem. -/
import Derived.Test.YtaijkalhkgjakaaGreatDoorG30
import Derived.Test.YtaijkalhkgjakaaGreatDoorF6
import Derived.Test.YtaijkalhkgjakaaGreatDoorG24
import Derived.Test.YtaijkalhkgjakaaGreatDoorP14
import Derived.Test.YtaijkalhkgjakaaGreatDoorPB3
open List (length_map)
set_option linter.all false
set_option linter.unusedSimpArgs false
set_option linter.unusedVariables false
namespace Go.Proofs.YtaijkalhkgjakaaGreatDoor
open Go.Av
attribute [local irreducible] thenA blockA awp awpOps awpD awp1
attribute [local go_sem_proc] Nat.reduceAdd Nat.reduceMul Nat.reduceEqDiff Nat.reduceBEq Nat.reduceLeDiff
attribute [local go_sem_proc ↓] reduceIte
attribute [local go_sem] if_yes if_no
set_option maxHeartbeats 8000000
set_option maxRecDepth 20000
def takV (S:Sp) (p:List Sf):Int × Int:=if shopE S ≠ 0 then (0,shopE S) else if chkP S p ≠ 0 then (0,chkP S p) else (takesP S p,0)
theorem takV_bad {S:Sp} {p:List Sf} (h:shopE S ≠ 0):takV S p=(0,shopE S):=by unfold takV;rw [if_pos h]
theorem takV_err {S:Sp} {p:List Sf} (h:shopE S=0) (h2:chkP S p ≠ 0):takV S p=(0,chkP S p):=by unfold takV;rw [if_neg (fun q=>q h),if_pos h2]
theorem takV_ok {S:Sp} {p:List Sf} (h:shopE S=0) (h2:chkP S p=0):takV S p=(takesP S p,0):=by unfold takV;rw [if_neg (fun q=>q h),if_neg (fun q=>q h2)]
theorem c32 (S:Sp) (p:List Sf) (hp:(p.length:Int) < 1000000):PureG gB Tryz.prog 32 [S.av,.lst 2 (p.map Sf.row)] (fun v=>v=.tup [.int .i64 (takV S p).1,.int .i64 (takV S p).2]):=by
 intro h hgl
 refine ACalls.forget (ACalls.of tab mixed Tryz.call32 Tryz.func32 rfl (fi:=⟨34,[],[2],none,[]⟩) rfl rfl (Nat.le_of_ble_eq_true rfl) (by decide) ?_)
 unfold startA
 try simp only[go_sem]
 by_cases hs:shopE S=0
 case neg =>
  repeat' (first|refine st_seq_reg rfl (by first|(simp only[go_sem];rfl)|rfl) (by first|(simp only[go_sem];rfl)|rfl) ?_|refine st_op ?_|refine st_det rfl (by simp (disch:=omega) only[go_sem,wr_i64];rfl) ?_|(refine st_pureE (by first|(simp (disch:=omega) only[go_sem];rfl)|rfl) rfl (c26 S) (by first|(simp only[go_sem];rfl)|rfl) (by intro n;first|(simp (disch:=omega) only[go_sem];rfl)|rfl) ?_;intro n hn)|(refine st_condS rfl ?_ ?_ <;> intro hg <;> (try simp only[dcT,dcF,bnT,bnF] at hg))|refine st_nil ?_|refine st_tN ?_|refine st_seq ?_|refine st_skip ?_|refine st_ret ?_|refine st_tR ?_)
  all_goals try (exfalso;omega)
  simp (disch:=omega) only[AEnd,Tryz.results32,aresK,fin,go_sem,implies_true,true_and,and_true,List.reverse_cons,List.reverse_nil]
  rw [takV_bad hs]
 have hS:S.Ok:=shop_ok hs
 by_cases hc:chkP S p=0
 case neg =>
  repeat' (first|refine st_seq_reg rfl (by first|(simp only[go_sem];rfl)|rfl) (by first|(simp only[go_sem];rfl)|rfl) ?_|refine st_op ?_|refine st_det rfl (by simp (disch:=omega) only[go_sem,wr_i64];rfl) ?_|(refine st_pureE (by first|(simp (disch:=omega) only[go_sem];rfl)|rfl) rfl (c26 S) (by first|(simp only[go_sem];rfl)|rfl) (by intro n;first|(simp (disch:=omega) only[go_sem];rfl)|rfl) ?_;intro n hn)|(refine st_pureGE (by first|(simp (disch:=omega) only[go_sem];rfl)|rfl) rfl (c69 S hS p hp) (by exact hgl) (by first|(simp only[go_sem];rfl)|rfl) (by intro n;first|(simp (disch:=omega) only[go_sem];rfl)|rfl) ?_;intro n hn)|(refine st_condS rfl ?_ ?_ <;> intro hg <;> (try simp only[dcT,dcF,bnT,bnF] at hg))|refine st_nil ?_|refine st_tN ?_|refine st_seq ?_|refine st_block ?_|refine st_skip ?_|refine st_ret ?_|refine st_tR ?_)
  all_goals try (exfalso;omega)
  simp (disch:=omega) only[AEnd,Tryz.results32,aresK,fin,go_sem,implies_true,true_and,and_true,List.reverse_cons,List.reverse_nil]
  rw [takV_err hs hc]
 have hV:=(chkP_vp hS).1 hc
 have hpl:=hV.len
 have h7:=hS.n7
 repeat' (first|refine st_seq_reg rfl (by first|(simp only[go_sem,Lm];rfl)|rfl) (by first|(simp only[go_sem,Lm];rfl)|rfl) ?_|refine st_op ?_|refine st_det rfl (by simp (disch:=omega) only[go_sem,wr_i64,Lm];rfl) ?_|(refine st_pureE (by first|(simp (disch:=omega) only[go_sem,Lm];rfl)|rfl) rfl (c26 S) (by first|(simp only[go_sem,Lm];rfl)|rfl) (by intro n;first|(simp (disch:=omega) only[go_sem];rfl)|rfl) ?_;intro n hn)|(refine st_pureGE (by first|(simp (disch:=omega) only[go_sem,Lm];rfl)|rfl) rfl (c69 S hS p hp) (by exact hgl) (by first|(simp only[go_sem,Lm];rfl)|rfl) (by intro n;first|(simp (disch:=omega) only[go_sem];rfl)|rfl) ?_;intro n hn)|(refine st_condS rfl ?_ ?_ <;> intro hg <;> (try simp only[dcT,dcF,bnT,bnF] at hg))|refine st_nil ?_|refine st_tN ?_|refine st_seq ?_|refine st_block ?_|refine st_skip ?_|refine st_ret ?_|refine st_tR ?_)
 all_goals try (exfalso;omega)
 refine st_loopC (α:=Nat) tab mixed [] [] (by repeat (first|exact trivial|refine ⟨rfl,?_⟩)) [] [] (by repeat (first|exact trivial|refine ⟨rfl,?_⟩)) (fun i=>[(23,.int .i64 (i:Nat)),(8,.int .i64 (takesTo S.js p i))]) [(1,_),(2,_),(4,_),(5,_),(21,_),(22,_)] (fun _=>[]) [] (fun i=>i≤p.length) (fun i=>p.length - i) (by decide) 0 (Nat.zero_le _) (by (try simp only[go_sem]);repeat' (first|exact trivial|refine And.intro ?_ ?_|rfl|(simp (disch:=omega) only[go_sem,if_yes,if_no,if_no];rfl)|(simp (disch:=omega) only[go_sem,if_yes,if_no,if_no]))) (by (try simp only[go_sem]);repeat' (first|exact trivial|refine And.intro ?_ ?_|rfl|(simp (disch:=omega) only[go_sem,if_yes,if_no,if_no];rfl)|(simp (disch:=omega) only[go_sem,if_yes,if_no,if_no]))) (by first|(simp only[go_sem];rfl)|rfl) (by intro n;simp only[go_sem];rfl) ?_
 rintro i c hi hc2
 simp only[go_sem]
 by_cases hil:i < p.length
 ·have hji:=hS.j (show i < S.js.length by omega)
  unfold Jb.Ok at hji
  have eji:S.j i=jOf S.js i:=rfl
  rw [eji] at hji
  obtain ⟨_,_,_,hd0,hd1⟩:=hV.w i (by omega)
  repeat' (first|refine st_seq_reg rfl (by first|(simp only[go_sem,Lm];rfl)|rfl) (by first|(simp only[go_sem,Lm];rfl)|rfl) ?_|refine st_reg rfl (by first|(simp only[go_sem,Lm];rfl)|rfl) (by first|(simp only[go_sem,Lm];rfl)|rfl) ?_|refine st_op ?_|refine st_det rfl (by simp (disch:=omega) only[go_sem,wr_i64,Lm];rfl) ?_|(refine st_pureE (by first|(simp (disch:=omega) only[go_sem,Lm];rfl)|rfl) rfl (c70 S p i (by omega) (by omega) h7 (by omega) (by omega)) (by first|(simp only[go_sem,Lm];rfl)|rfl) (by intro n;first|(simp (disch:=omega) only[go_sem];rfl)|rfl) ?_;intro n hn)|(refine st_condS rfl ?_ ?_ <;> intro hg <;> (try simp only[dcT,dcF,bnT,bnF] at hg))|refine st_nil ?_|refine st_tN ?_|refine st_seq ?_|refine st_block ?_|refine st_skip ?_|refine st_exit ?_|refine st_ret ?_|refine st_tE ?_|refine st_bN ?_|refine st_bH ?_)
  all_goals try (exfalso;omega)
  refine ⟨i+1,(by omega),by omega,(by repeat' (first|exact trivial|refine And.intro ?_ ?_|rfl|(simp (disch:=omega) only[go_sem,if_yes,if_no,if_no];rfl)|(simp (disch:=omega) only[go_sem,if_yes,if_no,if_no]))),(by repeat' (first|exact trivial|refine And.intro ?_ ?_|rfl|(simp (disch:=omega) only[go_sem,if_yes,if_no,if_no];rfl)|(simp (disch:=omega) only[go_sem,if_yes,if_no,if_no]))),rfl,(by first|exact HOld.of _ (by omega)|exact HOld.put _ _ _ (by omega))⟩
 ·have ei:i=p.length:=by omega
  subst ei
  repeat' (first|refine st_seq_reg rfl (by first|(simp only[go_sem,Lm];rfl)|rfl) (by first|(simp only[go_sem,Lm];rfl)|rfl) ?_|refine st_reg rfl (by first|(simp only[go_sem,Lm];rfl)|rfl) (by first|(simp only[go_sem,Lm];rfl)|rfl) ?_|refine st_op ?_|refine st_det rfl (by simp (disch:=omega) only[go_sem,wr_i64,Lm];rfl) ?_|(refine st_condS rfl ?_ ?_ <;> intro hg <;> (try simp only[dcT,dcF,bnT,bnF] at hg))|refine st_nil ?_|refine st_tN ?_|refine st_seq ?_|refine st_block ?_|refine st_skip ?_|refine st_exit ?_|refine st_ret ?_|refine st_tE ?_|refine st_bH ?_)
  all_goals try (exfalso;omega)
  simp (disch:=omega) only[AEnd,Tryz.results32,aresK,fin,go_sem,implies_true,true_and,and_true,List.reverse_cons,List.reverse_nil]
  rw [takV_ok hs hc]
  unfold takesP;rw [hpl]
end Go.Proofs.YtaijkalhkgjakaaGreatDoor

namespace Go.Proofs.YtaijkalhkgjakaaGreatDoor
open Go.Av Go.Txt Go.Lib
attribute [local irreducible] thenA blockA awp awpOps awpD awp1
attribute [local go_sem_proc] Nat.reduceAdd Nat.reduceMul Nat.reduceEqDiff Nat.reduceBEq Nat.reduceLeDiff
attribute [local go_sem_proc ↓] reduceIte
attribute [local go_sem] if_yes if_no
set_option maxHeartbeats 16000000
set_option maxRecDepth 20000
theorem Pure.le {f:FuncId} {args args':List AV} {R:AV→Prop} (hl:VLes args args') (H:Pure Tryz.prog f args' R):Pure Tryz.prog f args R :=
 fun h=>⟨(H h).1,fun c xs hh hv=>(H h).2 c xs hh (hl.rel hv)⟩
theorem le1 {a b:AV} {l r:List AV} (h:VLe a b) (k:VLes l r):VLes (a :: l) (b :: r):=by simp only[VLes];exact ⟨_,_,rfl,h,k⟩
theorem frzss_wk {b:Bid} {k:Blk}:∀ (l:List Wk),frzss b k (l.map Wk.row)=l.map Wk.row
 | []=>by simp only[List.map_nil,frzss]
 | x :: l=>by simp only[List.map_cons,frzss,frzss_wk l,Wk.row,frzs,frz]
def FrS (h h':AH) (b:Bid) (k:Blk):Prop:=h.clk≤b.1∧b.1 < h'.clk∧h'.at_ b=some k∧(∀ b':Bid,b'.1 < h.clk→h'.at_ b'=h.at_ b')∧h'.lp=h.lp
theorem c25j (h:AH):ACalls Tryz.prog 25 [] h (fun v h'=>∃ b:Bid,v=.agg [.lst 3 (exShop.ws.map Wk.row),.slc b 3 0 4]∧FrS h h' b ⟨3,exShop.js.map Jb.row⟩):=by
 refine ACalls.of tab mixed Tryz.call25 Tryz.func25 rfl (fi:=⟨11,[0],[4],none,[]⟩) rfl rfl (Nat.le_of_ble_eq_true rfl) (by decide) ?_
 unfold startA
 try simp only[go_sem]
 repeat' (first|refine st_seq_reg rfl (by first|(simp only[go_sem];rfl)|rfl) (by first|(simp only[go_sem];rfl)|rfl) ?_|refine st_reg rfl (by first|(simp only[go_sem];rfl)|rfl) (by first|(simp only[go_sem];rfl)|rfl) ?_|refine st_op ?_|refine st_det rfl (by simp (disch:=omega) only[go_sem,wr_i64];rfl) ?_|refine st_loc rfl (by simp (disch:=omega) only[go_sem,wr_i64];rfl) ?_|refine st_heap rfl (by simp (disch:=omega) only[go_sem,wr_i64];rfl) ?_|refine st_store (by simp (disch:=omega) only[go_sem,wr_i64];rfl) ?_|refine st_nil ?_|refine st_tN ?_|refine st_seq ?_|refine st_skip ?_|refine st_ret ?_|refine st_tE ?_|refine st_tR ?_)
 simp (disch:=omega) only[AEnd,Tryz.results25,aresK,fin,go_sem,implies_true,true_and,and_true,List.reverse_cons,List.reverse_nil]
 refine ⟨_,rfl,by dsimp only;omega,by simp only[go_sem];omega,put_same _ _ _,fun b' hb'=>put_ne _ _ (fun e=>by rw [e] at hb';dsimp only at hb';omega),rfl⟩
theorem c64s (a:List Bool) (ha:a.length≤1000000):Pure Tryz.prog 64 [.lst 1 (a.map bv),.lst 1 (a.map bv)] (fun v=>v=.bool true):=by
 intro h
 refine ACalls.forget (ACalls.of tab mixed Tryz.call64 Tryz.func64 rfl (fi:=⟨31,[],[],none,[(5,[0,0,3,7,0,0,48,112,255,511],[(0,false),(1,false),(2,false),(3,true),(4,false),(5,false),(6,false),(7,true),(8,false),(9,false)])]⟩) rfl rfl (Nat.le_of_ble_eq_true rfl) (by decide) ?_)
 unfold startA
 repeat' (first|refine st_seq_reg rfl (by first|(simp only[go_sem,Lm,decide_true];rfl)|rfl) (by first|(simp only[go_sem,Lm,decide_true];rfl)|rfl) ?_|refine st_reg rfl (by first|(simp only[go_sem,Lm,decide_true];rfl)|rfl) (by first|(simp only[go_sem,Lm,decide_true];rfl)|rfl) ?_|refine st_seq_draw rfl (by first|(simp only[go_sem,Lm,decide_true];rfl)|rfl) (by first|(simp only[go_sem,Lm,decide_true];rfl)|rfl) ?_|refine st_draw rfl (by first|(simp only[go_sem,Lm,decide_true];rfl)|rfl) (by first|(simp only[go_sem,Lm,decide_true];rfl)|rfl) ?_|refine st_op ?_|refine st_det rfl (by simp (disch:=omega) only[go_sem,wr_i64,Lm,decide_true];rfl) ?_|refine st_dop rfl ?_|refine st_gT rfl rfl rfl ?_|refine st_gF rfl rfl rfl ?_|refine st_dgT rfl rfl rfl rfl ?_|refine st_dgF rfl rfl rfl ?_|(refine st_gS rfl rfl ?_ ?_ <;> intro hg <;> (try simp only[dcT,dcF,bnT,bnF] at hg))|(refine st_dgS rfl rfl ?_ ?_ <;> intro hg <;> (try simp only[dcT,dcF,bnT,bnF] at hg))|refine st_condT rfl ?_|refine st_condF rfl ?_|(refine st_condS rfl ?_ ?_ <;> intro hg <;> (try simp only[dcT,dcF,bnT,bnF] at hg))|refine st_nil ?_|refine st_dnil ?_|refine st_tN ?_|refine st_seq ?_|refine st_block ?_|refine st_skip ?_|refine st_exit ?_|refine st_ret ?_|refine st_tE ?_|refine st_tR ?_|refine st_bN ?_|refine st_bR ?_|refine st_bH ?_|refine st_bM rfl ?_)
 all_goals try (exfalso;omega)
 refine st_loopC (α:=Nat) tab mixed [] [] (by repeat (first|exact trivial|refine ⟨rfl,?_⟩)) [] [] (by repeat (first|exact trivial|refine ⟨rfl,?_⟩)) (fun i=>[(6,.int .i64 (i:Nat)),(5,.bool true)]) [(0,_),(1,_)] (fun _=>[]) [] (fun i=>i≤a.length) (fun i=>a.length - i) (by decide) 0 (Nat.zero_le _) (by (try simp only[go_sem]);repeat' (first|exact trivial|refine And.intro ?_ ?_|rfl|(simp (disch:=omega) only[go_sem,if_yes,if_no,if_no];rfl)|(simp (disch:=omega) only[go_sem,if_yes,if_no,if_no]))) (by (try simp only[go_sem]);repeat' (first|exact trivial|refine And.intro ?_ ?_|rfl|(simp (disch:=omega) only[go_sem,if_yes,if_no,if_no];rfl)|(simp (disch:=omega) only[go_sem,if_yes,if_no,if_no]))) (by first|(simp only[go_sem];rfl)|rfl) (by intro n;simp only[go_sem];rfl) ?_
 rintro i c hi1 hc
 simp only[go_sem]
 by_cases hi:i < a.length
 case pos =>
  repeat' (first|refine st_seq_reg rfl (by first|(simp only[go_sem,Lm,decide_true,beq_self_eq_true];rfl)|rfl) (by first|(simp only[go_sem,Lm,decide_true,beq_self_eq_true];rfl)|rfl) ?_|refine st_reg rfl (by first|(simp only[go_sem,Lm,decide_true,beq_self_eq_true];rfl)|rfl) (by first|(simp only[go_sem,Lm,decide_true,beq_self_eq_true];rfl)|rfl) ?_|refine st_seq_draw rfl (by first|(simp only[go_sem,Lm,decide_true,beq_self_eq_true];rfl)|rfl) (by first|(simp only[go_sem,Lm,decide_true,beq_self_eq_true];rfl)|rfl) ?_|refine st_draw rfl (by first|(simp only[go_sem,Lm,decide_true,beq_self_eq_true];rfl)|rfl) (by first|(simp only[go_sem,Lm,decide_true,beq_self_eq_true];rfl)|rfl) ?_|refine st_op ?_|refine st_det rfl (by simp (disch:=omega) only[go_sem,wr_i64,Lm,decide_true,beq_self_eq_true];rfl) ?_|refine st_dop rfl ?_|refine st_gT rfl rfl rfl ?_|refine st_gF rfl rfl rfl ?_|refine st_dgT rfl rfl rfl rfl ?_|refine st_dgF rfl rfl rfl ?_|(refine st_gS rfl rfl ?_ ?_ <;> intro hg <;> (try simp only[dcT,dcF,bnT,bnF] at hg))|(refine st_dgS rfl rfl ?_ ?_ <;> intro hg <;> (try simp only[dcT,dcF,bnT,bnF] at hg))|refine st_condT rfl ?_|refine st_condF rfl ?_|(refine st_condS rfl ?_ ?_ <;> intro hg <;> (try simp only[dcT,dcF,bnT,bnF] at hg))|refine st_nil ?_|refine st_dnil ?_|refine st_tN ?_|refine st_seq ?_|refine st_block ?_|refine st_skip ?_|refine st_exit ?_|refine st_ret ?_|refine st_tE ?_|refine st_tR ?_|refine st_bN ?_|refine st_bR ?_|refine st_bH ?_|refine st_bM rfl ?_)
  all_goals try (exfalso;omega)
  refine ⟨i+1,by show i+1≤_;omega,by show a.length - (i+1) < a.length - i;omega,(by repeat' (first|exact trivial|refine And.intro ?_ ?_|rfl|(simp (disch:=omega) only[go_sem,if_yes,if_no,if_no];rfl)|(simp (disch:=omega) only[go_sem,if_yes,if_no,if_no]))),(by repeat' (first|exact trivial|refine And.intro ?_ ?_|rfl|(simp (disch:=omega) only[go_sem,if_yes,if_no,if_no];rfl)|(simp (disch:=omega) only[go_sem,if_yes,if_no,if_no]))),rfl,(by first|exact HOld.of _ (by omega)|exact HOld.put _ _ _ (by omega))⟩
 obtain rfl:i=a.length:=by omega
 repeat' (first|refine st_seq_reg rfl (by first|(simp only[go_sem,Lm];rfl)|rfl) (by first|(simp only[go_sem,Lm];rfl)|rfl) ?_|refine st_reg rfl (by first|(simp only[go_sem,Lm];rfl)|rfl) (by first|(simp only[go_sem,Lm];rfl)|rfl) ?_|refine st_seq_draw rfl (by first|(simp only[go_sem,Lm];rfl)|rfl) (by first|(simp only[go_sem,Lm];rfl)|rfl) ?_|refine st_draw rfl (by first|(simp only[go_sem,Lm];rfl)|rfl) (by first|(simp only[go_sem,Lm];rfl)|rfl) ?_|refine st_op ?_|refine st_det rfl (by simp (disch:=omega) only[go_sem,wr_i64,Lm];rfl) ?_|refine st_dop rfl ?_|refine st_gT rfl rfl rfl ?_|refine st_gF rfl rfl rfl ?_|refine st_dgT rfl rfl rfl rfl ?_|refine st_dgF rfl rfl rfl ?_|(refine st_gS rfl rfl ?_ ?_ <;> intro hg <;> (try simp only[dcT,dcF,bnT,bnF] at hg))|(refine st_dgS rfl rfl ?_ ?_ <;> intro hg <;> (try simp only[dcT,dcF,bnT,bnF] at hg))|refine st_condT rfl ?_|refine st_condF rfl ?_|(refine st_condS rfl ?_ ?_ <;> intro hg <;> (try simp only[dcT,dcF,bnT,bnF] at hg))|refine st_nil ?_|refine st_dnil ?_|refine st_tN ?_|refine st_seq ?_|refine st_block ?_|refine st_skip ?_|refine st_exit ?_|refine st_ret ?_|refine st_tE ?_|refine st_tR ?_|refine st_bN ?_|refine st_bR ?_|refine st_bH ?_|refine st_bM rfl ?_)
 all_goals try (exfalso;omega)
 simp (disch:=omega) only[AEnd,Tryz.results64,aresK,fin,go_sem,implies_true,true_and,and_true,List.reverse_cons,List.reverse_nil]
theorem c20s (a:List (List Bool)) (ha:a.length≤1000000) (h2:∀ x ∈ a,x.length≤1000000):Pure Tryz.prog 20 [.lst 1 (a.map bvs),.lst 1 (a.map bvs)] (fun v=>v=.bool true):=by
 intro h
 refine ACalls.forget (ACalls.of tab mixed Tryz.call20 Tryz.func20 rfl (fi:=⟨31,[],[],none,[(5,[0,0,3,7,0,0,48,112,255,511],[(0,false),(1,false),(2,false),(3,true),(4,false),(5,false),(6,false),(7,true),(8,false),(9,false)])]⟩) rfl rfl (Nat.le_of_ble_eq_true rfl) (by decide) ?_)
 unfold startA
 repeat' (first|refine st_seq_reg rfl (by first|(simp only[go_sem,Lm,decide_true];rfl)|rfl) (by first|(simp only[go_sem,Lm,decide_true];rfl)|rfl) ?_|refine st_reg rfl (by first|(simp only[go_sem,Lm,decide_true];rfl)|rfl) (by first|(simp only[go_sem,Lm,decide_true];rfl)|rfl) ?_|refine st_seq_draw rfl (by first|(simp only[go_sem,Lm,decide_true];rfl)|rfl) (by first|(simp only[go_sem,Lm,decide_true];rfl)|rfl) ?_|refine st_draw rfl (by first|(simp only[go_sem,Lm,decide_true];rfl)|rfl) (by first|(simp only[go_sem,Lm,decide_true];rfl)|rfl) ?_|refine st_op ?_|refine st_det rfl (by simp (disch:=omega) only[go_sem,wr_i64,Lm,decide_true];rfl) ?_|refine st_dop rfl ?_|refine st_gT rfl rfl rfl ?_|refine st_gF rfl rfl rfl ?_|refine st_dgT rfl rfl rfl rfl ?_|refine st_dgF rfl rfl rfl ?_|(refine st_gS rfl rfl ?_ ?_ <;> intro hg <;> (try simp only[dcT,dcF,bnT,bnF] at hg))|(refine st_dgS rfl rfl ?_ ?_ <;> intro hg <;> (try simp only[dcT,dcF,bnT,bnF] at hg))|refine st_condT rfl ?_|refine st_condF rfl ?_|(refine st_condS rfl ?_ ?_ <;> intro hg <;> (try simp only[dcT,dcF,bnT,bnF] at hg))|refine st_nil ?_|refine st_dnil ?_|refine st_tN ?_|refine st_seq ?_|refine st_block ?_|refine st_skip ?_|refine st_exit ?_|refine st_ret ?_|refine st_tE ?_|refine st_tR ?_|refine st_bN ?_|refine st_bR ?_|refine st_bH ?_|refine st_bM rfl ?_)
 all_goals try (exfalso;omega)
 refine st_loopC (α:=Nat) tab mixed [] [] (by repeat (first|exact trivial|refine ⟨rfl,?_⟩)) [] [] (by repeat (first|exact trivial|refine ⟨rfl,?_⟩)) (fun i=>[(6,.int .i64 (i:Nat)),(5,.bool true)]) [(0,_),(1,_)] (fun _=>[]) [] (fun i=>i≤a.length) (fun i=>a.length - i) (by decide) 0 (Nat.zero_le _) (by (try simp only[go_sem]);repeat' (first|exact trivial|refine And.intro ?_ ?_|rfl|(simp (disch:=omega) only[go_sem,if_yes,if_no,if_no];rfl)|(simp (disch:=omega) only[go_sem,if_yes,if_no,if_no]))) (by (try simp only[go_sem]);repeat' (first|exact trivial|refine And.intro ?_ ?_|rfl|(simp (disch:=omega) only[go_sem,if_yes,if_no,if_no];rfl)|(simp (disch:=omega) only[go_sem,if_yes,if_no,if_no]))) (by first|(simp only[go_sem];rfl)|rfl) (by intro n;simp only[go_sem];rfl) ?_
 rintro i c hi1 hc
 simp only[go_sem]
 by_cases hi:i < a.length
 case pos =>
  have k64:=c64s (a.getD i []) (h2 _ (by rw [List.getD_eq_getElem?_getD,List.getElem?_eq_getElem hi];exact List.getElem_mem hi))
  repeat' (first|refine st_seq_reg rfl (by first|(simp only[go_sem,Lm,decide_true];rfl)|rfl) (by first|(simp only[go_sem,Lm,decide_true];rfl)|rfl) ?_|refine st_reg rfl (by first|(simp only[go_sem,Lm,decide_true];rfl)|rfl) (by first|(simp only[go_sem,Lm,decide_true];rfl)|rfl) ?_|refine st_seq_draw rfl (by first|(simp only[go_sem,Lm,decide_true];rfl)|rfl) (by first|(simp only[go_sem,Lm,decide_true];rfl)|rfl) ?_|refine st_draw rfl (by first|(simp only[go_sem,Lm,decide_true];rfl)|rfl) (by first|(simp only[go_sem,Lm,decide_true];rfl)|rfl) ?_|refine st_op ?_|refine st_det rfl (by simp (disch:=omega) only[go_sem,wr_i64,Lm,decide_true];rfl) ?_|refine st_dop rfl ?_|(refine st_pureE (by first|(simp (disch:=omega) only[go_sem,Lm,decide_true];rfl)|rfl) rfl (k64) (by first|(simp only[go_sem,Lm,decide_true];rfl)|rfl) (by intro n;first|(simp (disch:=omega) only[go_sem];rfl)|rfl) ?_;intro n hn)|refine st_gT rfl rfl rfl ?_|refine st_gF rfl rfl rfl ?_|refine st_dgT rfl rfl rfl rfl ?_|refine st_dgF rfl rfl rfl ?_|(refine st_gS rfl rfl ?_ ?_ <;> intro hg <;> (try simp only[dcT,dcF,bnT,bnF] at hg))|(refine st_dgS rfl rfl ?_ ?_ <;> intro hg <;> (try simp only[dcT,dcF,bnT,bnF] at hg))|refine st_condT rfl ?_|refine st_condF rfl ?_|(refine st_condS rfl ?_ ?_ <;> intro hg <;> (try simp only[dcT,dcF,bnT,bnF] at hg))|refine st_nil ?_|refine st_dnil ?_|refine st_tN ?_|refine st_seq ?_|refine st_block ?_|refine st_skip ?_|refine st_exit ?_|refine st_ret ?_|refine st_tE ?_|refine st_tR ?_|refine st_bN ?_|refine st_bR ?_|refine st_bH ?_|refine st_bM rfl ?_)
  all_goals try (exfalso;omega)
  refine ⟨i+1,by show i+1≤_;omega,by show a.length - (i+1) < a.length - i;omega,(by repeat' (first|exact trivial|refine And.intro ?_ ?_|rfl|(simp (disch:=omega) only[go_sem,if_yes,if_no,if_no];rfl)|(simp (disch:=omega) only[go_sem,if_yes,if_no,if_no]))),(by repeat' (first|exact trivial|refine And.intro ?_ ?_|rfl|(simp (disch:=omega) only[go_sem,if_yes,if_no,if_no];rfl)|(simp (disch:=omega) only[go_sem,if_yes,if_no,if_no]))),rfl,(by first|exact HOld.of _ (by omega)|exact HOld.put _ _ _ (by omega))⟩
 obtain rfl:i=a.length:=by omega
 repeat' (first|refine st_seq_reg rfl (by first|(simp only[go_sem,Lm];rfl)|rfl) (by first|(simp only[go_sem,Lm];rfl)|rfl) ?_|refine st_reg rfl (by first|(simp only[go_sem,Lm];rfl)|rfl) (by first|(simp only[go_sem,Lm];rfl)|rfl) ?_|refine st_seq_draw rfl (by first|(simp only[go_sem,Lm];rfl)|rfl) (by first|(simp only[go_sem,Lm];rfl)|rfl) ?_|refine st_draw rfl (by first|(simp only[go_sem,Lm];rfl)|rfl) (by first|(simp only[go_sem,Lm];rfl)|rfl) ?_|refine st_op ?_|refine st_det rfl (by simp (disch:=omega) only[go_sem,wr_i64,Lm];rfl) ?_|refine st_dop rfl ?_|refine st_gT rfl rfl rfl ?_|refine st_gF rfl rfl rfl ?_|refine st_dgT rfl rfl rfl rfl ?_|refine st_dgF rfl rfl rfl ?_|(refine st_gS rfl rfl ?_ ?_ <;> intro hg <;> (try simp only[dcT,dcF,bnT,bnF] at hg))|(refine st_dgS rfl rfl ?_ ?_ <;> intro hg <;> (try simp only[dcT,dcF,bnT,bnF] at hg))|refine st_condT rfl ?_|refine st_condF rfl ?_|(refine st_condS rfl ?_ ?_ <;> intro hg <;> (try simp only[dcT,dcF,bnT,bnF] at hg))|refine st_nil ?_|refine st_dnil ?_|refine st_tN ?_|refine st_seq ?_|refine st_block ?_|refine st_skip ?_|refine st_exit ?_|refine st_ret ?_|refine st_tE ?_|refine st_tR ?_|refine st_bN ?_|refine st_bR ?_|refine st_bH ?_|refine st_bM rfl ?_)
 all_goals try (exfalso;omega)
 simp (disch:=omega) only[AEnd,Tryz.results20,aresK,fin,go_sem,implies_true,true_and,and_true,List.reverse_cons,List.reverse_nil]
end Go.Proofs.YtaijkalhkgjakaaGreatDoor

namespace Go.Proofs.YtaijkalhkgjakaaGreatDoor
open Go.Av Go.Txt Go.Lib
attribute [local irreducible] thenA blockA awp awpOps awpD awp1
attribute [local go_sem_proc] Nat.reduceAdd Nat.reduceMul Nat.reduceEqDiff Nat.reduceBEq Nat.reduceLeDiff
attribute [local go_sem_proc ↓] reduceIte
attribute [local go_sem] if_yes if_no
set_option maxHeartbeats 16000000
set_option maxRecDepth 20000
def shopN:Sp:=⟨[],exShop.js⟩
def shopK:Sp:=⟨exShop.ws,[⟨0,4,3⟩,⟨0,3,2⟩,⟨1,2,4⟩,⟨1,3,2⟩]⟩
def shopF:Sp:=⟨exShop.ws.take 2,exShop.js⟩
def shopL:Sp:=⟨exShop.ws.drop 1,exShop.js⟩
theorem x_s0:shopE exShop=0:=by decide +kernel
theorem x_sN:shopE shopN=4:=by decide +kernel
theorem x_sK:shopE shopK=3:=by decide +kernel
theorem x_fit:fitsD exR exF exD=[[true,true],[true,false]]:=by decide +kernel
def exF1:List Fl:=exF.drop 1
def exF0:List Fl:=exF.take 1
def exD2:List (List Ld):=[[⟨70,200,300,30,30,1,0⟩],[⟨30,10,20,50,60,1,0⟩]]
theorem x_m1:matchV exR exF1 exD=.tup [.lst 1 (([0,-1]:List Int).map iv),.int .i64 0]:=by
 unfold matchV
 rw [if_neg (by decide +kernel),show (matchR (fitsD exR exF1 exD) exD.length).1=[0,-1] by decide +kernel]
 rfl
theorem x_m2:matchV exR exF0 exD2=.tup [.lst 1 (([0,-1]:List Int).map iv),.int .i64 0]:=by
 unfold matchV
 rw [if_neg (by decide +kernel),show (matchR (fitsD exR exF0 exD2) exD2.length).1=[0,-1] by decide +kernel]
 rfl
def jobsX:List Jb:=[⟨0,2,2⟩,⟨0,3,1⟩,⟨1,1,3⟩,⟨1,2,2⟩,⟨1,3,1⟩]
theorem x_j1:jobsV [1,-1] 3 2 1=.tup [.lst 3 (jobsX.map Jb.row),.int .i64 0]:=by
 unfold jobsV
 rw [if_neg (by decide +kernel),show outJ [1,-1] 3 2 1 ([1,-1]:List Int).length=jobsX by decide +kernel]
theorem x_j2:jobsV [-1,-1,-1] 1 1 1=.tup [.nils,.int .i64 13]:=by
 unfold jobsV
 rw [if_pos (by decide +kernel),show jobsErr [-1,-1,-1] 1 1 1=13 by decide +kernel]
def plX (w d:Int):List Sf:=[⟨0,0⟩,⟨w,d⟩,⟨1,0⟩,⟨1,4⟩]
theorem x_t1:takV exShop (plX 2 3)=(6,0):=by decide +kernel
theorem x_t2:takV exShop (plX 2 2)=(0,9):=by decide +kernel
theorem x_t3:takV exShop (plX 1 3)=(0,10):=by decide +kernel
def plF:List Sf:=[⟨0,0⟩,⟨1,4⟩,⟨1,0⟩,⟨1,6⟩]
theorem x_b:bestV shopF=.tup [.lst 2 (plF.map Sf.row),.int .i64 8,.int .i64 0]:=by
 unfold bestV
 rw [if_neg (by decide +kernel),show bestD shopF=(plF,8) by decide +kernel]
theorem x_d:bndV shopL=(0,7):=by decide +kernel
theorem x_w:brdT exShop=[115,104,111,112,32,52,10,119,111,114,107,101,114,32,49,32,48,32,48,10,119,111,114,107,101,114,32,48,32,49,32,49,10,119,111,114,107,101,114,32,48,32,48,32,49,10,106,111,98,32,48,32,49,32,51,10,106,111,98,32,48,32,51,32,50,10,106,111,98,32,49,32,50,32,52,10,106,111,98,32,49,32,51,32,50,10,101,110,100,10]:=by decide +kernel
theorem x_wr:wrV exShop=.tup [.str [115,104,111,112,32,52,10,119,111,114,107,101,114,32,49,32,48,32,48,10,119,111,114,107,101,114,32,48,32,49,32,49,10,119,111,114,107,101,114,32,48,32,48,32,49,10,106,111,98,32,48,32,49,32,51,10,106,111,98,32,48,32,51,32,50,10,106,111,98,32,49,32,50,32,52,10,106,111,98,32,49,32,51,32,50,10,101,110,100,10],.int .i64 0]:=by unfold wrV;rw [if_pos x_s0,x_w]
end Go.Proofs.YtaijkalhkgjakaaGreatDoor

namespace Go.Av
theorem VLes.mid {pre post:List AV} {v v':AV} (h:VLe v v'):VLes (pre ++ v :: post) (pre ++ v' :: post):=by
 induction pre with
 | nil=>simp only[List.nil_append,VLes];exact ⟨_,_,rfl,h,VLes.refl _⟩
 | cons x pre ih=>simp only[List.cons_append,VLes];exact ⟨_,_,rfl,VLe.refl _,ih⟩
theorem frzs_app (b:Bid) (k:Blk):∀ (l r:List AV),frzs b k (l ++ r)=frzs b k l ++ frzs b k r
 | [],r=>by simp only[List.nil_append,frzs]
 | x :: l,r=>by simp only[List.cons_append,frzs,frzs_app b k l r]
end Go.Av
namespace Go.Av
variable {P:Program}
theorem ASem.cutWg {r:Option Nat} {n:Nat} {code:Code} {Q:Exit→AS→Prop} {T:Nat→AV} {B:Bid→Option (List AV)} {M:List Nat} {H:AH} (id:Bid) (pre post:List AV) (v:AV) (z:Nat) (l:List (List AV)) {h0:Nat} (hB:B id=some (pre ++ v :: post)) (hS:SlA h0 H v z l)
  (hst:∀ b m,v=.slc b z 0 m→frzs b ⟨z,l⟩ pre=pre∧frzs b ⟨z,l⟩ post=post)
  (h:∀ H',(∀ b',(∀ m,v ≠ .slc b' z 0 m)→H'.at_ b'=H.at_ b')→H'.clk=H.clk→H'.lp=H.lp→H'.gl=H.gl→ASem P r n code Q ⟨T,upd B id (some (pre ++ .lst z l :: post)),M,H'⟩):ASem P r n code Q ⟨T,B,M,H⟩:=by
 refine ASem.cutXg id (fun b=>∃ m,v=.slc b z 0 m) (cs':=pre ++ .lst z l :: post) hB ?_ fun H' h1 h2 h3 h4=>h H' (fun b' hb'=>h1 b' fun ⟨m,e⟩=>hb' m e) h2 h3 h4
 rcases hS with ⟨rfl,rfl⟩|⟨b1,rfl,h2,h3,h4⟩
 ·exact .inl ⟨VLes.pre (VLe.nils z),fun hall=>by simpa [AV.cell] using hall⟩
 ·obtain ⟨e1,e2⟩:=hst b1 _ rfl
  refine .inr ⟨b1,_,h2,?_,_,rfl⟩
  rw [frzs_app,e1]
  simp only[frzs,e2]
  rw [frz_lst]
def Dis (z z':Nat) (v v':AV):Prop:=∀ b m m',v=.slc b z 0 m→v'=.slc b z' 0 m'→False
theorem Dis.frz {z z':Nat} {v v':AV} {h0:Nat} {g:AH} {l':List (List AV)} (hd:Dis z z' v v') (hS:SlA h0 g v' z' l'):∀ b m k,v=.slc b z 0 m→frz b k v'=v':=by
 intro b m k e
 rcases hS with ⟨rfl,_⟩|⟨b2,rfl,_⟩
 ·rfl
 ·have hne:¬ b2=b:=fun q=>hd b m _ e (by rw [q])
  simp only[Av.frz,if_neg (fun q:b2=b∧_=>hne q.1)]
end Go.Av
namespace Go.Txt
open Go.Lib
end Go.Txt
