/- Contracts of functions that the claim reaches: what each call gives, told in our own logic. Conditions: those of each theorem. -/
import Derived.Test.YtaijkalhkgjakaaDoorG30
import Derived.Test.YtaijkalhkgjakaaDoorBaseD
import Derived.Test.YtaijkalhkgjakaaDoorG27
import Derived.Test.YtaijkalhkgjakaaDoorRows
import Derived.LaidLaws
import Derived.LaidHandle
import Derived.FnData
open Nat (reduceAdd reduceMul reduceEqDiff reduceLeDiff)
open List (length_map)
set_option linter.all false
set_option linter.unusedSimpArgs false
set_option linter.unusedVariables false
namespace Go.Proofs.YtaijkalhkgjakaaDoor
open Go.Av
attribute [local irreducible] thenA blockA awp awpOps awpD awp1
set_option maxHeartbeats 8000000
set_option maxRecDepth 20000
def takV (S:Sp) (p:List Sf):Int × Int:=if shopE S ≠ 0 then (0,shopE S) else if chkP S p ≠ 0 then (0,chkP S p) else (takesP S p,0)
theorem takV_bad {S:Sp} {p:List Sf} (h:shopE S ≠ 0):takV S p=(0,shopE S):=by unfold takV;rw [if_pos h]
theorem takV_err {S:Sp} {p:List Sf} (h:shopE S=0) (h2:chkP S p ≠ 0):takV S p=(0,chkP S p):=by unfold takV;rw [if_neg (fun q=>q h),if_pos h2]
theorem takV_ok {S:Sp} {p:List Sf} (h:shopE S=0) (h2:chkP S p=0):takV S p=(takesP S p,0):=by unfold takV;rw [if_neg (fun q=>q h),if_neg (fun q=>q h2)]
theorem c47 (S:Sp) (p:List Sf) (hp:(p.length:Int) < 1000000):PureG gB Tryd.prog 47 [S.av,.lst 2 (p.map Sf.row)] (fun v=>v=.tup [.int .i64 (takV S p).1,.int .i64 (takV S p).2]):=by
  intro h hgl
  refine ACalls.forget (ACalls.of tab mixed Tryd.call47 Tryd.func47 rfl (fi:=⟨34,[],[2],none,[]⟩) rfl rfl (Nat.le_of_ble_eq_true rfl) (by decide) ?_)
  unfold startA
  try simp only[go_sem]
  by_cases hs:shopE S=0
  case neg =>
    repeat' (first|refine st_seq_reg rfl (by first|(simp only[go_sem];rfl)|rfl) (by first|(simp only[go_sem];rfl)|rfl) ?_|refine st_reg rfl (by first|(simp only[go_sem];rfl)|rfl) (by first|(simp only[go_sem];rfl)|rfl) ?_|refine st_op ?_|refine st_det rfl (by simp (disch:=omega) only[go_sem,wr_i64,if_yes,if_no,↓reduceIte,reduceAdd,reduceMul,reduceEqDiff,Nat.reduceBEq,reduceLeDiff];rfl) ?_|refine st_loc rfl (by simp (disch:=omega) only[go_sem,wr_i64,if_yes,if_no,↓reduceIte,reduceAdd,reduceMul,reduceEqDiff,Nat.reduceBEq,reduceLeDiff];rfl) ?_|refine st_heap rfl (by simp (disch:=omega) only[go_sem,wr_i64,if_yes,if_no,↓reduceIte,reduceAdd,reduceMul,reduceEqDiff,Nat.reduceBEq,reduceLeDiff];rfl) ?_|(refine st_pureE (by first|(simp (disch:=omega) only[go_sem];rfl)|rfl) rfl (c51 S) (by first|(simp only[go_sem];rfl)|rfl) (by intro n;first|(simp (disch:=omega) only[go_sem];rfl)|rfl) ?_;intro n hn)|refine st_condT rfl ?_|refine st_condF rfl ?_|(refine st_condS rfl ?_ ?_ <;> intro hg <;> (try simp only[decide_eq_true_eq,decide_eq_false_iff_not,Bool.not_eq_true',Bool.not_eq_false'] at hg))|refine st_nil ?_|refine st_tN ?_|refine st_seq ?_|refine st_block ?_|refine st_skip ?_|refine st_exit ?_|refine st_ret ?_|refine st_tE ?_|refine st_tR ?_|refine st_bN ?_|refine st_bR ?_|refine st_bH ?_|refine st_bM rfl ?_)
    all_goals try (exfalso;omega)
    simp (disch:=omega) only[AEnd,Tryd.results47,aresK,fin,go_sem,↓reduceIte,reduceEqDiff,reduceAdd,reduceLeDiff,if_yes,if_no,implies_true,true_and,and_true,List.reverse_cons,List.reverse_nil]
    rw [takV_bad hs]
  have hS:S.Ok:=shop_ok hs
  by_cases hc:chkP S p=0
  case neg =>
    repeat' (first|refine st_seq_reg rfl (by first|(simp only[go_sem];rfl)|rfl) (by first|(simp only[go_sem];rfl)|rfl) ?_|refine st_reg rfl (by first|(simp only[go_sem];rfl)|rfl) (by first|(simp only[go_sem];rfl)|rfl) ?_|refine st_op ?_|refine st_det rfl (by simp (disch:=omega) only[go_sem,wr_i64,if_yes,if_no,↓reduceIte,reduceAdd,reduceMul,reduceEqDiff,Nat.reduceBEq,reduceLeDiff];rfl) ?_|refine st_loc rfl (by simp (disch:=omega) only[go_sem,wr_i64,if_yes,if_no,↓reduceIte,reduceAdd,reduceMul,reduceEqDiff,Nat.reduceBEq,reduceLeDiff];rfl) ?_|refine st_heap rfl (by simp (disch:=omega) only[go_sem,wr_i64,if_yes,if_no,↓reduceIte,reduceAdd,reduceMul,reduceEqDiff,Nat.reduceBEq,reduceLeDiff];rfl) ?_|(refine st_pureE (by first|(simp (disch:=omega) only[go_sem];rfl)|rfl) rfl (c51 S) (by first|(simp only[go_sem];rfl)|rfl) (by intro n;first|(simp (disch:=omega) only[go_sem];rfl)|rfl) ?_;intro n hn)|(refine st_pureGE (by first|(simp (disch:=omega) only[go_sem];rfl)|rfl) rfl (c86 S hS p hp) (by exact hgl) (by first|(simp only[go_sem];rfl)|rfl) (by intro n;first|(simp (disch:=omega) only[go_sem];rfl)|rfl) ?_;intro n hn)|refine st_condT rfl ?_|refine st_condF rfl ?_|(refine st_condS rfl ?_ ?_ <;> intro hg <;> (try simp only[decide_eq_true_eq,decide_eq_false_iff_not,Bool.not_eq_true',Bool.not_eq_false'] at hg))|refine st_nil ?_|refine st_tN ?_|refine st_seq ?_|refine st_block ?_|refine st_skip ?_|refine st_exit ?_|refine st_ret ?_|refine st_tE ?_|refine st_tR ?_|refine st_bN ?_|refine st_bR ?_|refine st_bH ?_|refine st_bM rfl ?_)
    all_goals try (exfalso;omega)
    simp (disch:=omega) only[AEnd,Tryd.results47,aresK,fin,go_sem,↓reduceIte,reduceEqDiff,reduceAdd,reduceLeDiff,if_yes,if_no,implies_true,true_and,and_true,List.reverse_cons,List.reverse_nil]
    rw [takV_err hs hc]
  have hV:=(chkP_vp hS).1 hc
  have hpl:=hV.len
  have h7:=hS.n7
  repeat' (first|refine st_seq_reg rfl (by first|(simp only[go_sem,length_map];rfl)|rfl) (by first|(simp only[go_sem,length_map];rfl)|rfl) ?_|refine st_reg rfl (by first|(simp only[go_sem,length_map];rfl)|rfl) (by first|(simp only[go_sem,length_map];rfl)|rfl) ?_|refine st_op ?_|refine st_det rfl (by simp (disch:=omega) only[go_sem,wr_i64,if_yes,if_no,↓reduceIte,reduceAdd,reduceMul,reduceEqDiff,Nat.reduceBEq,reduceLeDiff,length_map];rfl) ?_|refine st_loc rfl (by simp (disch:=omega) only[go_sem,wr_i64,if_yes,if_no,↓reduceIte,reduceAdd,reduceMul,reduceEqDiff,Nat.reduceBEq,reduceLeDiff,length_map];rfl) ?_|refine st_heap rfl (by simp (disch:=omega) only[go_sem,wr_i64,if_yes,if_no,↓reduceIte,reduceAdd,reduceMul,reduceEqDiff,Nat.reduceBEq,reduceLeDiff,length_map];rfl) ?_|(refine st_pureE (by first|(simp (disch:=omega) only[go_sem,length_map];rfl)|rfl) rfl (c51 S) (by first|(simp only[go_sem,length_map];rfl)|rfl) (by intro n;first|(simp (disch:=omega) only[go_sem];rfl)|rfl) ?_;intro n hn)|(refine st_pureGE (by first|(simp (disch:=omega) only[go_sem,length_map];rfl)|rfl) rfl (c86 S hS p hp) (by exact hgl) (by first|(simp only[go_sem,length_map];rfl)|rfl) (by intro n;first|(simp (disch:=omega) only[go_sem];rfl)|rfl) ?_;intro n hn)|refine st_condT rfl ?_|refine st_condF rfl ?_|(refine st_condS rfl ?_ ?_ <;> intro hg <;> (try simp only[decide_eq_true_eq,decide_eq_false_iff_not,Bool.not_eq_true',Bool.not_eq_false'] at hg))|refine st_nil ?_|refine st_tN ?_|refine st_seq ?_|refine st_block ?_|refine st_skip ?_|refine st_exit ?_|refine st_ret ?_|refine st_tE ?_|refine st_tR ?_|refine st_bN ?_|refine st_bR ?_|refine st_bH ?_|refine st_bM rfl ?_)
  all_goals try (exfalso;omega)
  refine st_loopC (α:=Nat) tab mixed [] [] (by repeat (first|exact trivial|refine ⟨rfl,?_⟩)) [] [] (by repeat (first|exact trivial|refine ⟨rfl,?_⟩)) (fun i=>[(23,.int .i64 (i:Nat)),(8,.int .i64 (takesTo S.js p i))]) [(1,_),(2,_),(4,_),(5,_),(21,_),(22,_)] (fun _=>[]) [] (fun i=>i≤p.length) (fun i=>p.length - i) (by decide) 0 (Nat.zero_le _) (by (try simp only[go_sem]);repeat' (first|exact trivial|refine And.intro ?_ ?_|rfl|(simp (disch:=omega) only[go_sem,if_yes,if_no,↓reduceIte,reduceAdd,reduceMul,reduceEqDiff,Nat.reduceBEq,reduceLeDiff];rfl)|(simp (disch:=omega) only[go_sem,if_yes,if_no,↓reduceIte,reduceAdd,reduceMul,reduceEqDiff,Nat.reduceBEq,reduceLeDiff]))) (by (try simp only[go_sem]);repeat' (first|exact trivial|refine And.intro ?_ ?_|rfl|(simp (disch:=omega) only[go_sem,if_yes,if_no,↓reduceIte,reduceAdd,reduceMul,reduceEqDiff,Nat.reduceBEq,reduceLeDiff];rfl)|(simp (disch:=omega) only[go_sem,if_yes,if_no,↓reduceIte,reduceAdd,reduceMul,reduceEqDiff,Nat.reduceBEq,reduceLeDiff]))) (by first|(simp only[go_sem];rfl)|rfl) (by intro n;simp only[go_sem];rfl) ?_
  rintro i c hi hc2
  simp only[go_sem]
  by_cases hil:i < p.length
  · have hji:=hS.j (show i < S.js.length by omega)
    unfold Jb.Ok at hji
    have eji:S.j i=jOf S.js i:=rfl
    rw [eji] at hji
    obtain ⟨_,_,_,hd0,hd1⟩:=hV.w i (by omega)
    repeat' (first|refine st_seq_reg rfl (by first|(simp only[go_sem,length_map];rfl)|rfl) (by first|(simp only[go_sem,length_map];rfl)|rfl) ?_|refine st_reg rfl (by first|(simp only[go_sem,length_map];rfl)|rfl) (by first|(simp only[go_sem,length_map];rfl)|rfl) ?_|refine st_op ?_|refine st_det rfl (by simp (disch:=omega) only[go_sem,wr_i64,if_yes,if_no,↓reduceIte,reduceAdd,reduceMul,reduceEqDiff,Nat.reduceBEq,reduceLeDiff,length_map];rfl) ?_|refine st_loc rfl (by simp (disch:=omega) only[go_sem,wr_i64,if_yes,if_no,↓reduceIte,reduceAdd,reduceMul,reduceEqDiff,Nat.reduceBEq,reduceLeDiff,length_map];rfl) ?_|refine st_heap rfl (by simp (disch:=omega) only[go_sem,wr_i64,if_yes,if_no,↓reduceIte,reduceAdd,reduceMul,reduceEqDiff,Nat.reduceBEq,reduceLeDiff,length_map];rfl) ?_|(refine st_pureE (by first|(simp (disch:=omega) only[go_sem,length_map];rfl)|rfl) rfl (c87 S p i (by omega) (by omega) h7 (by omega) (by omega)) (by first|(simp only[go_sem,length_map];rfl)|rfl) (by intro n;first|(simp (disch:=omega) only[go_sem];rfl)|rfl) ?_;intro n hn)|refine st_condT rfl ?_|refine st_condF rfl ?_|(refine st_condS rfl ?_ ?_ <;> intro hg <;> (try simp only[decide_eq_true_eq,decide_eq_false_iff_not,Bool.not_eq_true',Bool.not_eq_false'] at hg))|refine st_nil ?_|refine st_tN ?_|refine st_seq ?_|refine st_block ?_|refine st_skip ?_|refine st_exit ?_|refine st_ret ?_|refine st_tE ?_|refine st_tR ?_|refine st_bN ?_|refine st_bR ?_|refine st_bH ?_|refine st_bM rfl ?_)
    all_goals try (exfalso;omega)
    refine ⟨i+1,(by omega),by omega,(by repeat' (first|exact trivial|refine And.intro ?_ ?_|rfl|(simp (disch:=omega) only[go_sem,if_yes,if_no,↓reduceIte,reduceAdd,reduceMul,reduceEqDiff,Nat.reduceBEq,reduceLeDiff];rfl)|(simp (disch:=omega) only[go_sem,if_yes,if_no,↓reduceIte,reduceAdd,reduceMul,reduceEqDiff,Nat.reduceBEq,reduceLeDiff]))),(by repeat' (first|exact trivial|refine And.intro ?_ ?_|rfl|(simp (disch:=omega) only[go_sem,if_yes,if_no,↓reduceIte,reduceAdd,reduceMul,reduceEqDiff,Nat.reduceBEq,reduceLeDiff];rfl)|(simp (disch:=omega) only[go_sem,if_yes,if_no,↓reduceIte,reduceAdd,reduceMul,reduceEqDiff,Nat.reduceBEq,reduceLeDiff]))),rfl,(by first|exact HOld.of _ (by omega)|exact HOld.put _ _ _ (by omega))⟩
  · have ei:i=p.length:=by omega
    subst ei
    repeat' (first|refine st_seq_reg rfl (by first|(simp only[go_sem,length_map];rfl)|rfl) (by first|(simp only[go_sem,length_map];rfl)|rfl) ?_|refine st_reg rfl (by first|(simp only[go_sem,length_map];rfl)|rfl) (by first|(simp only[go_sem,length_map];rfl)|rfl) ?_|refine st_op ?_|refine st_det rfl (by simp (disch:=omega) only[go_sem,wr_i64,if_yes,if_no,↓reduceIte,reduceAdd,reduceMul,reduceEqDiff,Nat.reduceBEq,reduceLeDiff,length_map];rfl) ?_|refine st_loc rfl (by simp (disch:=omega) only[go_sem,wr_i64,if_yes,if_no,↓reduceIte,reduceAdd,reduceMul,reduceEqDiff,Nat.reduceBEq,reduceLeDiff,length_map];rfl) ?_|refine st_heap rfl (by simp (disch:=omega) only[go_sem,wr_i64,if_yes,if_no,↓reduceIte,reduceAdd,reduceMul,reduceEqDiff,Nat.reduceBEq,reduceLeDiff,length_map];rfl) ?_|refine st_condT rfl ?_|refine st_condF rfl ?_|(refine st_condS rfl ?_ ?_ <;> intro hg <;> (try simp only[decide_eq_true_eq,decide_eq_false_iff_not,Bool.not_eq_true',Bool.not_eq_false'] at hg))|refine st_nil ?_|refine st_tN ?_|refine st_seq ?_|refine st_block ?_|refine st_skip ?_|refine st_exit ?_|refine st_ret ?_|refine st_tE ?_|refine st_tR ?_|refine st_bN ?_|refine st_bR ?_|refine st_bH ?_|refine st_bM rfl ?_)
    all_goals try (exfalso;omega)
    simp (disch:=omega) only[AEnd,Tryd.results47,aresK,fin,go_sem,↓reduceIte,reduceEqDiff,reduceAdd,reduceLeDiff,if_yes,if_no,implies_true,true_and,and_true,List.reverse_cons,List.reverse_nil]
    rw [takV_ok hs hc]
    unfold takesP;rw [hpl]
theorem c46h (l:List Sf) (hl:(l.length:Int) < 1000000) (h:AH):ACalls Tryd.prog 46 [.lst 2 (l.map Sf.row)] h (fun v g=>SlA h.clk g v 2 (l.map Sf.row)∧(∀ b:Bid,b.1 < h.clk→g.at_ b=h.at_ b)∧g.lp=h.lp∧h.clk≤g.clk):=by
  refine ACalls.of tab mixed Tryd.call46 Tryd.func46 rfl (fi:=⟨6,[],[],none,[]⟩) rfl rfl (Nat.le_of_ble_eq_true rfl) (by decide) ?_
  unfold startA
  try simp only[go_sem]
  repeat' (first|refine st_seq_reg rfl (by first|(simp only[go_sem];rfl)|rfl) (by first|(simp only[go_sem];rfl)|rfl) ?_|refine st_reg rfl (by first|(simp only[go_sem];rfl)|rfl) (by first|(simp only[go_sem];rfl)|rfl) ?_|refine st_op ?_|refine st_det rfl (by simp (disch:=omega) only[go_sem,wr_i64,if_yes,if_no,↓reduceIte,reduceAdd,reduceMul,reduceEqDiff,Nat.reduceBEq,reduceLeDiff];rfl) ?_|refine st_heap rfl (by simp (disch:=omega) only[go_sem,wr_i64,if_yes,if_no,↓reduceIte,reduceAdd,reduceMul,reduceEqDiff,Nat.reduceBEq,reduceLeDiff];rfl) ?_|refine st_append (by simp (disch:=omega) only[go_sem,wr_i64,if_yes,if_no,↓reduceIte,reduceAdd,reduceMul,reduceEqDiff,Nat.reduceBEq,reduceLeDiff];rfl) ?_|refine st_nil ?_|refine st_tN ?_|refine st_seq ?_|refine st_skip ?_|refine st_ret ?_|refine st_tE ?_|refine st_tR ?_)
  refine st_appS (z:=2) (m:=16) (h0:=h.clk) (l:=[]) (rows:=l.map Sf.row) (v:=.slc (h.clk+1,3) 2 0 0) (G0:=(h.tick (h.clk+1+1)).put (h.clk+1,3) (some ⟨2,[]⟩)) (n:=h.clk+1+1) (by intro h id x y;simp only[go_sem] <;> rfl) (by first|(simp only[go_sem];done)|(simp only[go_sem];rfl)) (by first|(simp only[go_sem];done)|(simp only[go_sem];rfl)) rfl (by decide) (.inr ⟨(h.clk+1,3),rfl,put_same _ _ _,by show h.clk≤h.clk+1;omega,by show h.clk+1 < h.clk+1+1;omega⟩) (fun _ _ _=>rfl) (Nat.le_refl _) (by simp only[length_map,List.length_nil,big];omega) (by omega) (by omega) ?_
  intro v' G hA
  have hnv:=hA.sl.noL
  repeat' (first|refine st_seq_reg rfl (by first|(simp only[go_sem];rfl)|rfl) (by first|(simp only[go_sem];rfl)|rfl) ?_|refine st_reg rfl (by first|(simp only[go_sem];rfl)|rfl) (by first|(simp only[go_sem];rfl)|rfl) ?_|refine st_op ?_|refine st_det rfl (by simp (disch:=omega) only[go_sem,wr_i64,if_yes,if_no,↓reduceIte,reduceAdd,reduceMul,reduceEqDiff,Nat.reduceBEq,reduceLeDiff];rfl) ?_|refine st_heap rfl (by simp (disch:=omega) only[go_sem,wr_i64,if_yes,if_no,↓reduceIte,reduceAdd,reduceMul,reduceEqDiff,Nat.reduceBEq,reduceLeDiff];rfl) ?_|refine st_append (by simp (disch:=omega) only[go_sem,wr_i64,if_yes,if_no,↓reduceIte,reduceAdd,reduceMul,reduceEqDiff,Nat.reduceBEq,reduceLeDiff];rfl) ?_|refine st_nil ?_|refine st_tN ?_|refine st_seq ?_|refine st_skip ?_|refine st_ret ?_|refine st_tE ?_|refine st_tR ?_)
  simp (disch:=omega) only[AEnd,Tryd.results46,aresK,fin,go_sem,↓reduceIte,reduceEqDiff,reduceAdd,reduceLeDiff,if_yes,if_no,implies_true,true_and,and_true,List.reverse_cons,List.reverse_nil]
  refine ⟨hnv,?_⟩
  have hs:=hA.sl
  rw [List.nil_append] at hs
  refine ⟨hs.to (fun _ _ _ _ _=>rfl) (by (try simp only[go_sem]);omega),fun b' hb'=>?_,hA.lp,by (try simp only[go_sem]);omega⟩
  show G.at_ b'=_
  rw [hA.old b' hb',put_ne _ _ (fun e=>by rw [e] at hb';exact absurd hb' (by show ¬ h.clk+1 < h.clk;omega))];rfl
theorem jobs_zero:∀ {l:List Jb},(∀ j ∈ l,j.Ok)→jobsE l=0
  | [],_=>rfl
  | x :: l,h=>by
    have hx:=h x (by simp)
    unfold Jb.Ok at hx
    have e:jobE x=0:=by unfold jobE;rw [if_neg (by omega),if_neg (by omega),if_neg (by omega)]
    simp only[jobsE]
    rw [if_neg (by omega)]
    exact jobs_zero fun j hj=>h j (by simp [hj])
theorem shop_zero {S:Sp} (hS:S.Ok):shopE S=0:=by
  have h1:=hS.m0
  have h2:=hS.m4
  have h3:=hS.n7
  rw [shop_in (by omega) (by omega) (by omega)]
  exact jobs_zero hS.job
theorem ShGood.ok {S:Sp} {W J D:Int} (h:ShGood S W J D) (hW:W≤4) (hJ:J≤7) (hD:D≤30):S.Ok :=
  ⟨h.w.1,by have:=h.w.2;omega,by have:=h.j;omega,fun j hj=>by have:=h.job j hj;unfold Jb.Ok;omega⟩
theorem bestV_no {S:Sp} (hS:S.Ok) (h:lackD S=true):bestV S=.tup [.nils,.int .i64 0,.int .i64 7]:=by
  have e:bndV S=(0,7):=by unfold bndV;rw [if_neg (fun q=>q (shop_zero hS)),if_pos h]
  unfold bestV;rw [e];rfl
theorem bestV_yes {S:Sp} (hS:S.Ok) (h:lackD S=false):bestV S=.tup [.lst 2 ((bestD S).1.map Sf.row),.int .i64 (bestD S).2,.int .i64 0]:=by
  have e:bndV S=(boundD S,0):=by unfold bndV;rw [if_neg (fun q=>q (shop_zero hS)),if_neg (by rw [h];decide)]
  unfold bestV;rw [e];rfl
theorem sWk' (l:List Wk):Still (.lst 3 (l.map Wk.row)):=Still.lst fun r hr x hx=>by
  obtain ⟨y,_,rfl⟩:=List.mem_map.1 hr
  simp only[Wk.row,List.mem_cons,List.not_mem_nil,or_false] at hx
  rcases hx with rfl|rfl|rfl <;> exact fun _ _=>rfl
theorem sJb (l:List Jb):Still (.lst 3 (l.map Jb.row)):=Still.lst fun r hr x hx=>by
  obtain ⟨y,_,rfl⟩:=List.mem_map.1 hr
  simp only[Jb.row,List.mem_cons,List.not_mem_nil,or_false] at hx
  rcases hx with rfl|rfl|rfl <;> exact fun _ _=>rfl
theorem sSp (S:Sp):Still S.av:=fun b k=>by
  show AV.agg [frz b k (.lst 3 (S.ws.map Wk.row)),frz b k (.lst 3 (S.js.map Jb.row))]=_
  rw [sWk' S.ws b k,sJb S.js b k];rfl
theorem frz_plan (S:Sp) (p:List Sf) (b:Bid):[S.av,.lst 2 (p.map Sf.row)]=frzs b ⟨2,p.map Sf.row⟩ [S.av,.slc b 2 0 p.length]:=by
  have e:=frz_lst (b:=b) (z:=2) (l:=p.map Sf.row)
  rw [length_map] at e
  simp only[frzs,e,sSp S _ _]
theorem law11 (l:List Int) (hl:(l.length:Int)≤9223372036854775807):LawG gB Tryd.prog 11 [.lst 1 (l.map iv)]:=by
  intro h hgl
  refine ACalls.of tab mixed Tryd.call11 Tryd.func11 rfl (fi:=⟨88,[3],[],none,[]⟩) rfl rfl (Nat.le_of_ble_eq_true rfl) (by decide) ?_
  unfold startA
  try simp only[go_sem]
  repeat' (first|refine st_seq_reg rfl (by first|(simp only[go_sem];rfl)|rfl) (by first|(simp only[go_sem];rfl)|rfl) ?_|refine st_op ?_|refine st_det rfl (by simp (disch:=omega) only[go_sem,wr_i64,if_yes,if_no,↓reduceIte,reduceAdd,reduceMul,reduceEqDiff,Nat.reduceBEq,reduceLeDiff];rfl) ?_|refine st_loc rfl (by simp (disch:=omega) only[go_sem,wr_i64,if_yes,if_no,↓reduceIte,reduceAdd,reduceMul,reduceEqDiff,Nat.reduceBEq,reduceLeDiff];rfl) ?_|refine st_store (by simp (disch:=omega) only[go_sem,wr_i64,if_yes,if_no,↓reduceIte,reduceAdd,reduceMul,reduceEqDiff,Nat.reduceBEq,reduceLeDiff];rfl) ?_|(refine st_callf rfl rfl (ACalls.keepGl (c15 l hl _)) ?_;rintro v h' ⟨hgl1,b,x,n,rfl,hb1,hb2,hu0,rfl⟩)|(refine st_drum (by first|(simp (disch:=omega) only[go_sem];rfl)|rfl) rfl (c14 b 3 5 5 (by decide) (by decide) (by decide)) (by first|(simp (disch:=omega) only[go_sem];rfl)|rfl) (by assumption) (by first|(simp only[go_sem];rfl)|rfl) (by intro x' n;first|(simp (disch:=omega) only[go_sem];rfl)|rfl) ?_;rintro v x' n hu' ⟨S,rfl,hG⟩ hn)|refine st_nil ?_)
  have hS:=hG.ok (by decide) (by decide) (by decide)
  have hgl2:h.gl=gB:=hgl
  have k17:=c17 S
  have k13:=c13
  cases hM:lackD S with
  | true =>
    rw [bestV_no hS hM] at k17
    repeat' (first|refine st_seq_reg rfl (by first|(simp only[go_sem];rfl)|rfl) (by first|(simp only[go_sem];rfl)|rfl) ?_|refine st_op ?_|refine st_det rfl (by simp (disch:=omega) only[go_sem,wr_i64,if_yes,if_no,↓reduceIte,reduceAdd,reduceMul,reduceEqDiff,Nat.reduceBEq,reduceLeDiff];rfl) ?_|(refine st_pureGE (by first|(simp (disch:=omega) only[go_sem];rfl)|rfl) rfl (k17) (by exact hgl) (by first|(simp only[go_sem];rfl)|rfl) (by intro n;first|(simp (disch:=omega) only[go_sem];rfl)|rfl) ?_;intro n hn)|(refine st_pureGE (by first|(simp (disch:=omega) only[go_sem];rfl)|rfl) rfl (k13) (by exact hgl) (by first|(simp only[go_sem];rfl)|rfl) (by intro n;first|(simp (disch:=omega) only[go_sem];rfl)|rfl) ?_;intro n hn)|refine st_gT rfl rfl rfl ?_|refine st_condT rfl ?_|refine st_nil ?_|refine st_seq ?_|refine st_ret ?_|refine st_tR ?_)
    all_goals try (exfalso;omega)
    simp (disch:=omega) only[AEnd,Tryd.results11,aresK,fin,go_sem,↓reduceIte,reduceEqDiff,reduceAdd,reduceLeDiff,if_yes,if_no,implies_true,true_and,and_true,List.reverse_cons,List.reverse_nil]
  | false =>
    rw [bestV_yes hS hM] at k17
    have hB:=bestD_ok hS ((lack_iff hS).1 hM)
    obtain ⟨pl,hpl⟩:∃ pl,pl=(bestD S).1:=⟨_,rfl⟩
    rw [← hpl] at k17 hB
    have hlen:=hB.vp.len
    have h7:=hS.n7
    have h4:=hS.m4
    repeat' (first|refine st_seq_reg rfl (by first|(simp only[go_sem,length_map];rfl)|rfl) (by first|(simp only[go_sem,length_map];rfl)|rfl) ?_|refine st_op ?_|refine st_det rfl (by simp (disch:=omega) only[go_sem,wr_i64,if_yes,if_no,↓reduceIte,reduceAdd,reduceMul,reduceEqDiff,Nat.reduceBEq,reduceLeDiff,length_map];rfl) ?_|(refine st_pureGE (by first|(simp (disch:=omega) only[go_sem,length_map];rfl)|rfl) rfl (k17) (by exact hgl) (by first|(simp only[go_sem,length_map];rfl)|rfl) (by intro n;first|(simp (disch:=omega) only[go_sem];rfl)|rfl) ?_;intro n hn)|refine st_condF rfl ?_|(refine st_condS rfl ?_ ?_ <;> intro hg <;> (try simp only[decide_eq_true_eq,decide_eq_false_iff_not,Bool.not_eq_true',Bool.not_eq_false'] at hg))|refine st_nil ?_|refine st_tN ?_|refine st_seq ?_|refine st_block ?_|refine st_skip ?_|refine st_ret ?_|refine st_tR ?_)
    all_goals try (exfalso;omega)
    have hw:=hB.vp.w
    refine st_loopH (α:=Nat × AH) tab mixed [] [] (by repeat (first|exact trivial|refine ⟨rfl,?_⟩)) [3] [_] (by repeat (first|exact trivial|refine ⟨rfl,?_⟩)) (fun a=>[(7,.int .i64 (a.1:Nat))]) [(2,_),(3,_),(4,_)] (fun _=>[]) [_] (fun a=>a.2) (fun a=>a.1≤pl.length∧a.2.gl=gB) (fun a=>pl.length - a.1) (by decide) (0,_) (by exact ⟨Nat.zero_le _,hgl2⟩) (by (try simp only[go_sem]);repeat' (first|exact trivial|refine And.intro ?_ ?_|rfl|(simp (disch:=omega) only[go_sem,if_yes,if_no,↓reduceIte,reduceAdd,reduceMul,reduceEqDiff,Nat.reduceBEq,reduceLeDiff];rfl)|(simp (disch:=omega) only[go_sem,if_yes,if_no,↓reduceIte,reduceAdd,reduceMul,reduceEqDiff,Nat.reduceBEq,reduceLeDiff]))) (by (try simp only[go_sem]);repeat' (first|exact trivial|refine And.intro ?_ ?_|rfl|(simp (disch:=omega) only[go_sem,if_yes,if_no,↓reduceIte,reduceAdd,reduceMul,reduceEqDiff,Nat.reduceBEq,reduceLeDiff];rfl)|(simp (disch:=omega) only[go_sem,if_yes,if_no,↓reduceIte,reduceAdd,reduceMul,reduceEqDiff,Nat.reduceBEq,reduceLeDiff]))) (HOld.refl _) ?_
    rintro ⟨i,g⟩ c ⟨hi,hg1⟩ hc
    dsimp only at hi hg1 hc
    simp only[go_sem]
    by_cases hil:i < pl.length
    case neg =>
      have ei:i=pl.length:=by omega
      subst ei
      repeat' (first|refine st_seq_reg rfl (by first|(simp only[go_sem,length_map];rfl)|rfl) (by first|(simp only[go_sem,length_map];rfl)|rfl) ?_|refine st_op ?_|refine st_det rfl (by simp (disch:=omega) only[go_sem,wr_i64,if_yes,if_no,↓reduceIte,reduceAdd,reduceMul,reduceEqDiff,Nat.reduceBEq,reduceLeDiff,length_map];rfl) ?_|(refine st_pureGE rfl rfl k13 (by exact hg1) (by rfl) (by intro n;rfl) ?_;intro n hn)|refine st_gT rfl rfl rfl ?_|refine st_gF rfl rfl rfl ?_|(refine st_gS rfl rfl ?_ ?_ <;> intro hg <;> (try simp only[decide_eq_true_eq,decide_eq_false_iff_not,Bool.not_eq_true',Bool.not_eq_false'] at hg))|refine st_condT rfl ?_|(refine st_condS rfl ?_ ?_ <;> intro hg <;> (try simp only[decide_eq_true_eq,decide_eq_false_iff_not,Bool.not_eq_true',Bool.not_eq_false'] at hg))|refine st_nil ?_|refine st_tN ?_|refine st_seq ?_|refine st_block ?_|refine st_skip ?_|refine st_exit ?_|refine st_ret ?_|refine st_tE ?_|refine st_tR ?_|refine st_bR ?_|refine st_bH ?_)
      all_goals try (exfalso;omega)
      simp (disch:=omega) only[AEnd,Tryd.results11,aresK,fin,go_sem,↓reduceIte,reduceEqDiff,reduceAdd,reduceLeDiff,if_yes,if_no,implies_true,true_and,and_true,List.reverse_cons,List.reverse_nil]
    obtain ⟨_,_,_,hd0,hd1⟩:=hw i (by omega)
    repeat' (first|refine st_seq_reg rfl (by first|(simp only[go_sem,length_map];rfl)|rfl) (by first|(simp only[go_sem,length_map];rfl)|rfl) ?_|refine st_op ?_|refine st_det rfl (by simp (disch:=omega) only[go_sem,wr_i64,if_yes,if_no,↓reduceIte,reduceAdd,reduceMul,reduceEqDiff,Nat.reduceBEq,reduceLeDiff,length_map];rfl) ?_|refine st_gT rfl rfl rfl ?_|refine st_gF rfl rfl rfl ?_|(refine st_gS rfl rfl ?_ ?_ <;> intro hg <;> (try simp only[decide_eq_true_eq,decide_eq_false_iff_not,Bool.not_eq_true',Bool.not_eq_false'] at hg))|refine st_condT rfl ?_|(refine st_condS rfl ?_ ?_ <;> intro hg <;> (try simp only[decide_eq_true_eq,decide_eq_false_iff_not,Bool.not_eq_true',Bool.not_eq_false'] at hg))|refine st_nil ?_|refine st_tN ?_|refine st_seq ?_|refine st_block ?_|refine st_skip ?_|refine st_exit ?_|refine st_ret ?_|refine st_tE ?_|refine st_tR ?_|refine st_bR ?_|refine st_bH ?_)
    all_goals try (exfalso;omega)
    refine st_loopH (α:=Nat × AH) tab mixed [] [] (by repeat (first|exact trivial|refine ⟨rfl,?_⟩)) [3] [_] (by repeat (first|exact trivial|refine ⟨rfl,?_⟩)) (fun a=>[(8,.int .i64 (a.1:Nat))]) [(2,_),(3,_),(4,_),(7,_)] (fun _=>[]) [_] (fun a=>a.2) (fun a=>a.1≤S.ws.length∧a.2.gl=gB) (fun a=>S.ws.length - a.1) (by decide) (0,_) (by exact ⟨Nat.zero_le _,hg1⟩) (by (try simp only[go_sem]);repeat' (first|exact trivial|refine And.intro ?_ ?_|rfl|(simp (disch:=omega) only[go_sem,if_yes,if_no,↓reduceIte,reduceAdd,reduceMul,reduceEqDiff,Nat.reduceBEq,reduceLeDiff];rfl)|(simp (disch:=omega) only[go_sem,if_yes,if_no,↓reduceIte,reduceAdd,reduceMul,reduceEqDiff,Nat.reduceBEq,reduceLeDiff]))) (by (try simp only[go_sem]);repeat' (first|exact trivial|refine And.intro ?_ ?_|rfl|(simp (disch:=omega) only[go_sem,if_yes,if_no,↓reduceIte,reduceAdd,reduceMul,reduceEqDiff,Nat.reduceBEq,reduceLeDiff];rfl)|(simp (disch:=omega) only[go_sem,if_yes,if_no,↓reduceIte,reduceAdd,reduceMul,reduceEqDiff,Nat.reduceBEq,reduceLeDiff]))) (HOld.refl _) ?_
    rintro ⟨w,g2⟩ c2 ⟨hwl,hg2⟩ hc2
    dsimp only at hwl hg2 hc2
    simp only[go_sem]
    by_cases hw2:w < S.ws.length
    case neg =>
      repeat' (first|refine st_seq_reg rfl (by first|(simp only[go_sem,length_map];rfl)|rfl) (by first|(simp only[go_sem,length_map];rfl)|rfl) ?_|refine st_reg rfl (by first|(simp only[go_sem,length_map];rfl)|rfl) (by first|(simp only[go_sem,length_map];rfl)|rfl) ?_|refine st_op ?_|refine st_det rfl (by simp (disch:=omega) only[go_sem,wr_i64,if_yes,if_no,↓reduceIte,reduceAdd,reduceMul,reduceEqDiff,Nat.reduceBEq,reduceLeDiff,length_map];rfl) ?_|(refine st_condS rfl ?_ ?_ <;> intro hg <;> (try simp only[decide_eq_true_eq,decide_eq_false_iff_not,Bool.not_eq_true',Bool.not_eq_false'] at hg))|refine st_nil ?_|refine st_tN ?_|refine st_seq ?_|refine st_block ?_|refine st_skip ?_|refine st_exit ?_|refine st_tE ?_|refine st_bN ?_|refine st_bH ?_)
      all_goals try (exfalso;omega)
      refine ⟨(i+1,_),(by exact ⟨by show i+1≤pl.length;omega,hg2⟩),(by show pl.length - (i+1) < pl.length - i;omega),(by repeat' (first|exact trivial|refine And.intro ?_ ?_|rfl|(simp (disch:=omega) only[go_sem,if_yes,if_no,↓reduceIte,reduceAdd,reduceMul,reduceEqDiff,Nat.reduceBEq,reduceLeDiff];rfl)|(simp (disch:=omega) only[go_sem,if_yes,if_no,↓reduceIte,reduceAdd,reduceMul,reduceEqDiff,Nat.reduceBEq,reduceLeDiff]))),(by repeat' (first|exact trivial|refine And.intro ?_ ?_|rfl|(simp (disch:=omega) only[go_sem,if_yes,if_no,↓reduceIte,reduceAdd,reduceMul,reduceEqDiff,Nat.reduceBEq,reduceLeDiff];rfl)|(simp (disch:=omega) only[go_sem,if_yes,if_no,↓reduceIte,reduceAdd,reduceMul,reduceEqDiff,Nat.reduceBEq,reduceLeDiff]))),rfl,HOld.refl _⟩
    repeat' (first|refine st_seq_reg rfl (by first|(simp only[go_sem,length_map];rfl)|rfl) (by first|(simp only[go_sem,length_map];rfl)|rfl) ?_|refine st_reg rfl (by first|(simp only[go_sem,length_map];rfl)|rfl) (by first|(simp only[go_sem,length_map];rfl)|rfl) ?_|refine st_op ?_|refine st_det rfl (by simp (disch:=omega) only[go_sem,wr_i64,if_yes,if_no,↓reduceIte,reduceAdd,reduceMul,reduceEqDiff,Nat.reduceBEq,reduceLeDiff,length_map];rfl) ?_|(refine st_condS rfl ?_ ?_ <;> intro hg <;> (try simp only[decide_eq_true_eq,decide_eq_false_iff_not,Bool.not_eq_true',Bool.not_eq_false'] at hg))|refine st_nil ?_|refine st_tN ?_|refine st_seq ?_|refine st_block ?_|refine st_skip ?_|refine st_exit ?_|refine st_tE ?_|refine st_bN ?_|refine st_bH ?_)
    all_goals try (exfalso;omega)
    refine st_loopH (α:=Nat × AH) tab mixed [] [] (by repeat (first|exact trivial|refine ⟨rfl,?_⟩)) [3] [_] (by repeat (first|exact trivial|refine ⟨rfl,?_⟩)) (fun a=>[(9,.int .i64 (a.1:Nat))]) [(2,_),(3,_),(4,_),(7,_),(8,_)] (fun _=>[]) [_] (fun a=>a.2) (fun a=>(a.1:Int)≤(pAt pl i).d∧a.2.gl=gB) (fun a=>(pAt pl i).d.toNat - a.1) (by decide) (0,_) (by exact ⟨hd0,hg2⟩) (by (try simp only[go_sem]);repeat' (first|exact trivial|refine And.intro ?_ ?_|rfl|(simp (disch:=omega) only[go_sem,if_yes,if_no,↓reduceIte,reduceAdd,reduceMul,reduceEqDiff,Nat.reduceBEq,reduceLeDiff];rfl)|(simp (disch:=omega) only[go_sem,if_yes,if_no,↓reduceIte,reduceAdd,reduceMul,reduceEqDiff,Nat.reduceBEq,reduceLeDiff]))) (by (try simp only[go_sem]);repeat' (first|exact trivial|refine And.intro ?_ ?_|rfl|(simp (disch:=omega) only[go_sem,if_yes,if_no,↓reduceIte,reduceAdd,reduceMul,reduceEqDiff,Nat.reduceBEq,reduceLeDiff];rfl)|(simp (disch:=omega) only[go_sem,if_yes,if_no,↓reduceIte,reduceAdd,reduceMul,reduceEqDiff,Nat.reduceBEq,reduceLeDiff]))) (HOld.refl _) ?_
    rintro ⟨day,g3⟩ c3 ⟨hdl,hg3⟩ hc3
    dsimp only at hdl hg3 hc3
    simp only[go_sem]
    by_cases hday:(day:Int) < (pAt pl i).d
    case neg =>
      repeat' (first|refine st_seq_reg rfl (by first|(simp only[go_sem,length_map];rfl)|rfl) (by first|(simp only[go_sem,length_map];rfl)|rfl) ?_|refine st_reg rfl (by first|(simp only[go_sem,length_map];rfl)|rfl) (by first|(simp only[go_sem,length_map];rfl)|rfl) ?_|refine st_op ?_|refine st_det rfl (by simp (disch:=omega) only[go_sem,wr_i64,if_yes,if_no,↓reduceIte,reduceAdd,reduceMul,reduceEqDiff,Nat.reduceBEq,reduceLeDiff,length_map];rfl) ?_|(refine st_condS rfl ?_ ?_ <;> intro hg <;> (try simp only[decide_eq_true_eq,decide_eq_false_iff_not,Bool.not_eq_true',Bool.not_eq_false'] at hg))|refine st_nil ?_|refine st_tN ?_|refine st_seq ?_|refine st_block ?_|refine st_skip ?_|refine st_exit ?_|refine st_tE ?_|refine st_bN ?_|refine st_bH ?_)
      all_goals try (exfalso;omega)
      refine ⟨(w+1,_),(by exact ⟨by show w+1≤S.ws.length;omega,hg3⟩),(by show S.ws.length - (w+1) < S.ws.length - w;omega),(by repeat' (first|exact trivial|refine And.intro ?_ ?_|rfl|(simp (disch:=omega) only[go_sem,if_yes,if_no,↓reduceIte,reduceAdd,reduceMul,reduceEqDiff,Nat.reduceBEq,reduceLeDiff];rfl)|(simp (disch:=omega) only[go_sem,if_yes,if_no,↓reduceIte,reduceAdd,reduceMul,reduceEqDiff,Nat.reduceBEq,reduceLeDiff]))),(by repeat' (first|exact trivial|refine And.intro ?_ ?_|rfl|(simp (disch:=omega) only[go_sem,if_yes,if_no,↓reduceIte,reduceAdd,reduceMul,reduceEqDiff,Nat.reduceBEq,reduceLeDiff];rfl)|(simp (disch:=omega) only[go_sem,if_yes,if_no,↓reduceIte,reduceAdd,reduceMul,reduceEqDiff,Nat.reduceBEq,reduceLeDiff]))),rfl,HOld.refl _⟩
    have hnv:¬ VP S (pl.set i ⟨w,day⟩):=hB.early (by omega) hday
    have hne:¬ (takV S (pl.set i ⟨w,day⟩)).2=0:=fun q=>by
      by_cases h0:chkP S (pl.set i ⟨w,day⟩)=0
      · exact hnv ((chkP_vp hS).1 h0)
      · rw [takV_err (shop_zero hS) h0] at q;exact h0 q
    repeat' (first|refine st_seq_reg rfl (by first|(simp only[go_sem,length_map];rfl)|rfl) (by first|(simp only[go_sem,length_map];rfl)|rfl) ?_|refine st_reg rfl (by first|(simp only[go_sem,length_map];rfl)|rfl) (by first|(simp only[go_sem,length_map];rfl)|rfl) ?_|refine st_op ?_|refine st_det rfl (by simp (disch:=omega) only[go_sem,wr_i64,if_yes,if_no,↓reduceIte,reduceAdd,reduceMul,reduceEqDiff,Nat.reduceBEq,reduceLeDiff,length_map];rfl) ?_|(refine st_callf rfl rfl (ACalls.keepGl (c46h pl (by omega) _)) ?_;rintro v h' ⟨hgl3,hS3,_,_,hck3⟩;rcases hS3 with ⟨rfl,e3⟩|⟨bo,rfl,q1,q2,q3⟩;(exfalso;have e4:=congrArg List.length e3;rw [length_map,List.length_nil] at e4;omega))|(refine st_condS rfl ?_ ?_ <;> intro hg <;> (try simp only[decide_eq_true_eq,decide_eq_false_iff_not,Bool.not_eq_true',Bool.not_eq_false'] at hg))|refine st_nil ?_|refine st_tN ?_|refine st_seq ?_|refine st_block ?_|refine st_skip ?_|refine st_exit ?_|refine st_tE ?_|refine st_bN ?_|refine st_bH ?_)
    all_goals try (exfalso;omega)
    have hgl4:h'.gl=gB:=hgl3.trans hg3
    repeat' (first|refine st_seq_reg rfl (by first|(simp only[go_sem,q1,length_map];rfl)|rfl) (by first|(simp only[go_sem,q1,length_map];rfl)|rfl) ?_|refine st_op ?_|refine st_det rfl (by simp (disch:=omega) only[go_sem,wr_i64,if_yes,if_no,↓reduceIte,reduceAdd,reduceMul,reduceEqDiff,Nat.reduceBEq,reduceLeDiff,q1,length_map];rfl) ?_|refine st_store (by simp (disch:=omega) only[go_sem,wr_i64,if_yes,if_no,↓reduceIte,reduceAdd,reduceMul,reduceEqDiff,Nat.reduceBEq,reduceLeDiff,q1,length_map];rfl) ?_|refine st_nil ?_)
    have hset:(pl.map Sf.row).set (0+i) [.int .i64 w,.int .i64 day]=(pl.set i ⟨w,day⟩).map Sf.row:=by rw [Nat.zero_add,List.map_set];rfl
    simp only[hset]
    have hsl:(pl.set i ⟨w,day⟩).length=pl.length:=List.length_set
    have h47:=c47 S (pl.set i ⟨w,day⟩) (by omega)
    have hfz:=frz_plan S (pl.set i ⟨w,day⟩) bo
    generalize pl.set i ⟨w,day⟩=pl2 at h47 hfz hne hsl
    rw [hsl] at hfz
    repeat' (first|refine st_seq_reg rfl (by first|(simp only[go_sem];rfl)|rfl) (by first|(simp only[go_sem];rfl)|rfl) ?_|refine st_reg rfl (by first|(simp only[go_sem];rfl)|rfl) (by first|(simp only[go_sem];rfl)|rfl) ?_|refine st_op ?_|refine st_det rfl (by simp (disch:=omega) only[go_sem,wr_i64,if_yes,if_no,↓reduceIte,reduceAdd,reduceMul,reduceEqDiff,Nat.reduceBEq,reduceLeDiff];rfl) ?_|(refine st_callf (args:=[S.av,.slc bo 2 0 pl.length]) rfl rfl (ACalls.keepGl (ACalls.frzIn (b:=bo) (put_same _ _ _) hfz (h47 _ (by exact hgl4)))) ?_;rintro v h'' ⟨hgl5,⟨n5,hn5,rfl⟩,rfl⟩)|(refine st_condS rfl ?_ ?_ <;> intro hg <;> (try simp only[decide_eq_true_eq,decide_eq_false_iff_not,Bool.not_eq_true',Bool.not_eq_false'] at hg))|refine st_nil ?_|refine st_tN ?_|refine st_skip ?_|refine st_ret ?_|refine st_tR ?_|refine st_bN ?_|refine st_bR ?_)
    all_goals try (exfalso;omega)
    refine ⟨(day+1,_),(by exact ⟨by show ((day+1:Nat):Int)≤(pAt pl i).d;omega,hgl4⟩),(by show (pAt pl i).d.toNat - (day+1) < (pAt pl i).d.toNat - day;omega),(by repeat' (first|exact trivial|refine And.intro ?_ ?_|rfl|(simp (disch:=omega) only[go_sem,if_yes,if_no,↓reduceIte,reduceAdd,reduceMul,reduceEqDiff,Nat.reduceBEq,reduceLeDiff];rfl)|(simp (disch:=omega) only[go_sem,if_yes,if_no,↓reduceIte,reduceAdd,reduceMul,reduceEqDiff,Nat.reduceBEq,reduceLeDiff]))),(by repeat' (first|exact trivial|refine And.intro ?_ ?_|rfl|(simp (disch:=omega) only[go_sem,if_yes,if_no,↓reduceIte,reduceAdd,reduceMul,reduceEqDiff,Nat.reduceBEq,reduceLeDiff];rfl)|(simp (disch:=omega) only[go_sem,if_yes,if_no,↓reduceIte,reduceAdd,reduceMul,reduceEqDiff,Nat.reduceBEq,reduceLeDiff]))),rfl,HOld.refl _⟩
end Go.Proofs.YtaijkalhkgjakaaDoor

namespace Go.Proofs.YtaijkalhkgjakaaDoor
open Go.Av
attribute [local irreducible] Shp
set_option maxRecDepth 20000
def I64 (n:Int):Prop:=-9223372036854775808≤n∧n≤9223372036854775807
theorem shpInt {d:Nat} {vs:List AV} (h:Shp Tryd.prog (d+1) 3 vs):∃ n,vs=[.int .i64 n]∧I64 n:=by
  obtain ⟨n,e,hw⟩:=shp_int Tryd.underlying3 h
  exact ⟨n,e,wf_i64 hw⟩
theorem shpNums {d:Nat} {vs:List AV} (h:Shp Tryd.prog (d+2) 26 vs):∃ l:List Int,vs=[.lst 1 (l.map iv)]∧l.length≤maxLen:=by
  obtain ⟨l,e,h1,_⟩:=shp_slice (f:=iv) (q:=fun _=>True) Tryd.underlying26 (show Tryd.prog.cellsOf 3=1 by kernel_rfl) h fun r hr=>by
    obtain ⟨x,e,_⟩:=shpInt hr
    exact ⟨x,e,trivial⟩
  exact ⟨l,e,h1⟩
end Go.Proofs.YtaijkalhkgjakaaDoor

namespace Go.Proofs.YtaijkalhkgjakaaDoor
open Go.Av Go.ChangeShapes Go.WideShapes Go.ChangeAt Go.RowKit
abbrev laidL : List (String × DataW Unit) := [("bateria/shed.bitOf", Rows.laid_bateria_shed_bitOf)]
theorem g0 : Tryd.prog.globalNamed "bateria/shed.bitOf" = some 0 := by kernel_rfl
theorem t0:(Tryd.prog.globals[0]?).map (·.type)=some 145:=by kernel_rfl
theorem glB {W:World} (h:laidMetH Tryd.prog laidL W):GL (c00 W) gB:=by
  have h':laidMet Tryd.prog laidL W:=h
  obtain ⟨ps,⟨g,t,cs,fuel,p,q,e1,e2,e3,e4,_⟩,_⟩:=h'
  obtain rfl:=Option.some.inj (g0.symm.trans e1)
  obtain rfl:=Option.some.inj (t0.symm.trans e2)
  have e5:=four_of_trod Tryd.underlying145 Tryd.underlying3 (by kernel_rfl) (by kernel_rfl) e4
  intro i row hi
  unfold gB at hi
  split at hi
  · rename_i ei
    subst ei
    cases hi
    have hc:=World.var?_cell g0 e3
    refine ⟨?_,rfl,[.int .i64 0,.int .i64 1,.int .i64 2,.int .i64 4],fun j v hj=>?_,?_⟩
    · have hc0:W.cell? ⟨0,0,none⟩=some (.int .i64 0):=by rw [hc 0,← Array.getElem?_toList,e5];rfl
      exact World.block_lt_of_cell? _ _ hc0
    · rw [Nat.zero_add]
      show W.cell? ⟨0,j,none⟩=some v
      rw [hc j,← Array.getElem?_toList,e5];exact hj
    · simp [VRs,VR]
  · cases hi
noncomputable def laidWorld (os:Os):World :=
  let w0:=World.holding Tryd.prog os ⟨#[],#[],[]⟩
  { w0 with heap:=w0.heap.modify 0 fun
      | .cells _ t frozen=>.cells #[.int .i64 0,.int .i64 1,.int .i64 2,.int .i64 4] t frozen
      | o=>o }
theorem laidWorld_met (os:Os) (args:Array Value):laidMetH Tryd.prog laidL ((laidWorld os).forCall (fun _ _=>0) ⟨#[],args,[]⟩).memory :=
  show laidMet _ _ _ from laidMet_of_run' 8 (by kernel_rfl) (by kernel_rfl)
end Go.Proofs.YtaijkalhkgjakaaDoor
