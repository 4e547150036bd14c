/- Contracts of functions that the claim reaches: what each call gives, told in our own logic. Conditions: those of each theorem. -/
import Derived.Test.YtaijkalhkgjakaaDoorG34
import Derived.Test.YtaijkalhkgjakaaDoorG27
import Derived.Test.YtaijkalhkgjakaaDoorBaseD
import Derived.Test.YtaijkalhkgjakaaDoorG1
import Derived.Test.YtaijkalhkgjakaaDoorG46
import Derived.Test.YtaijkalhkgjakaaDoorG42
open Nat (reduceAdd reduceMul reduceEqDiff reduceLeDiff)
open List (length_map)
set_option linter.all false
set_option linter.unusedSimpArgs false
set_option linter.unusedVariables false
namespace Go.Proofs.YtaijkalhkgjakaaDoor
open Go.Av
attribute [local irreducible] thenA blockA awp awpOps awpD awp1
set_option maxHeartbeats 8000000
set_option maxRecDepth 20000
theorem c16h (S:Sp) (hw:(S.ws.length:Int) < 1000000) (hj:(S.js.length:Int) < 1000000) (h:AH):ACalls Tryd.prog 16 [S.av] h (fun v g=>∃ b1 b2:Bid,v=.agg [.slc b1 3 0 S.ws.length,.slc b2 3 0 S.js.length]∧b1 ≠ b2∧h.clk≤b1.1∧h.clk≤b2.1∧b1.1 < g.clk∧b2.1 < g.clk∧g.at_ b1=some ⟨3,S.ws.map Wk.row⟩∧g.at_ b2=some ⟨3,S.js.map Jb.row⟩∧(∀ b:Bid,b.1 < h.clk→g.at_ b=h.at_ b)∧g.lp=h.lp):=by
  refine ACalls.of tab mixed Tryd.call16 Tryd.func16 rfl (fi:=⟨12,[2],[1,1000001],none,[(1,[0,0,2,7,0,0,32,127,255,511],[(0,false),(1,false),(2,true),(5,false),(6,true),(3,false),(4,false),(7,false),(8,false),(9,false)])]⟩) rfl rfl (Nat.le_of_ble_eq_true rfl) (by decide) ?_
  unfold startA
  try simp only[go_sem]
  repeat' (first|refine st_seq_reg rfl (by first|(simp only[go_sem];rfl)|rfl) (by first|(simp only[go_sem];rfl)|rfl) ?_|refine st_op ?_|refine st_det rfl (by simp (disch:=omega) only[go_sem,wr_i64,if_yes,if_no,↓reduceIte,reduceAdd,reduceMul,reduceEqDiff,Nat.reduceBEq,reduceLeDiff];rfl) ?_|refine st_loc rfl (by simp (disch:=omega) only[go_sem,wr_i64,if_yes,if_no,↓reduceIte,reduceAdd,reduceMul,reduceEqDiff,Nat.reduceBEq,reduceLeDiff];rfl) ?_|refine st_nil ?_|refine st_seq ?_)
  refine st_free ?_
  refine st_drawL tab mixed (f2:=⟨12,[2],[1],none,[(1,[0,0,2,7,0,0,32,127,255,511],[(0,false),(1,false),(2,true),(5,false),(6,true),(3,false),(4,false),(7,false),(8,false),(9,false)])]⟩) [4] rfl rfl (by first|(simp only[go_sem];rfl)|rfl) (by first|(simp only[go_sem];rfl)|rfl) (by first|(simp only[go_sem];rfl)|rfl) (by intro i o hi ho;obtain rfl:i=4:=(by simpa using hi);cases ho;exact ⟨7,3,rfl,rfl⟩) (by decide) ?_
  repeat' (first|refine st_det rfl (by simp (disch:=omega) only[go_sem,wr_i64,if_yes,if_no,↓reduceIte,reduceAdd,reduceMul,reduceEqDiff,Nat.reduceBEq,reduceLeDiff,length_map,big,Nat.zero_add];rfl) ?_|refine st_dop rfl ?_|refine st_heap rfl (by simp (disch:=omega) only[go_sem,wr_i64,if_yes,if_no,↓reduceIte,reduceAdd,reduceMul,reduceEqDiff,Nat.reduceBEq,reduceLeDiff,length_map,big,Nat.zero_add];rfl) ?_|refine st_store (by simp (disch:=omega) only[go_sem,wr_i64,if_yes,if_no,↓reduceIte,reduceAdd,reduceMul,reduceEqDiff,Nat.reduceBEq,reduceLeDiff,length_map,big,Nat.zero_add];rfl) ?_|refine st_append (by simp (disch:=omega) only[go_sem,wr_i64,if_yes,if_no,↓reduceIte,reduceAdd,reduceMul,reduceEqDiff,Nat.reduceBEq,reduceLeDiff,length_map,big,Nat.zero_add];rfl) ?_|refine st_dnil ?_|refine st_tN ?_|refine st_ret ?_)
  all_goals try (exfalso;omega)
  simp (disch:=omega) only[AEnd,Tryd.results16,aresK,fin,go_sem,↓reduceIte,reduceEqDiff,reduceAdd,reduceLeDiff,if_yes,if_no,implies_true,true_and,and_true,List.reverse_cons,List.reverse_nil]
  refine ⟨_,_,rfl,fun e=>(by injection e with _ e2;exact absurd e2 (by decide)),(by show h.clk≤h.clk+1;omega),(by show h.clk≤h.clk+1;omega),(by show h.clk+1 < h.clk+1+1;omega),(by show h.clk+1 < h.clk+1+1;omega),(by simp),(by simp),fun b hb=>?_⟩
  have hb0:∀ d,¬ b=(h.clk+1,d):=fun d e=>by rw [e] at hb;exact absurd hb (by show ¬ h.clk+1 < h.clk;omega)
  rw [if_neg (hb0 _),if_neg (hb0 _),if_neg (hb0 _),if_neg (hb0 _)]
theorem c16j (S:Sp) (hw:(S.ws.length:Int) < 1000000) (hj:(S.js.length:Int) < 1000000) (h:AH):ACalls Tryd.prog 16 [S.av] h (fun v g=>∃ b1:Bid,v=.agg [.slc b1 3 0 S.ws.length,.lst 3 (S.js.map Jb.row)]∧h.clk≤b1.1∧b1.1 < g.clk∧g.at_ b1=some ⟨3,S.ws.map Wk.row⟩∧(∀ b:Bid,b.1 < h.clk→g.at_ b=h.at_ b)∧g.lp=h.lp):=by
  refine ACalls.old Tryd.call16 fun hall=>?_
  refine ((c16h S hw hj h).mono ?_).give
  rintro v g ⟨b1,b2,rfl,hne,h1,h2,h3,h4,h5,h6,h7,h8⟩
  refine .inr ⟨b2,_,h6,?_,b1,?_,h1,h3,(put_ne _ _ hne).trans h5,fun b hb=>?_,h8⟩
  · cases e:h.at_ b2 with
    | none=>rfl
    | some k=>exact absurd (hall b2 k e) (by omega)
  · have e:=frz_lst (b:=b2) (z:=3) (l:=S.js.map Jb.row)
    rw [length_map] at e
    simp only[frz,frzs]
    simp only[frz] at e
    rw [if_neg (fun hh=>hne hh.1),e]
  · rw [put_ne _ _ (fun e=>by rw [e] at hb;omega)];exact h7 b hb
theorem c16 (S:Sp) (hw:(S.ws.length:Int) < 1000000) (hj:(S.js.length:Int) < 1000000):Pure Tryd.prog 16 [S.av] (fun v=>v=S.av):=by
  refine Pure.give Tryd.call16 fun h hall=>?_
  refine (c16j S hw hj h).mono ?_
  rintro v g ⟨b1,rfl,h1,h2,h3,h4,h5⟩
  refine ⟨h4,h5,.inr ⟨b1,_,h1,h3,?_⟩⟩
  have e:=frz_lst (b:=b1) (z:=3) (l:=S.ws.map Wk.row)
  rw [length_map] at e
  show AV.agg [frz b1 _ (.slc b1 3 0 S.ws.length),frz b1 _ (.lst 3 (S.js.map Jb.row))]=S.av
  rw [e,sJb S.js];rfl
theorem c20s (S:Sp) (hw:(S.ws.length:Int) < 1000000) (hj:(S.js.length:Int) < 1000000):Pure Tryd.prog 20 [S.av,S.av] (fun v=>v=.bool true):=by
  intro h
  have k44:=c44 S.js S.js hj hj
  rw [decide_eq_true rfl] at k44
  refine ACalls.forget (ACalls.of tab mixed Tryd.call20 Tryd.func20 rfl (fi:=⟨43,[],[2,3],none,[(5,[0,1,0,7,15,0,32,0,224,480,1023,2047],[(0,false),(1,true),(2,false),(3,false),(4,true),(5,false),(6,true),(7,false),(8,false),(9,true),(10,false),(11,false)])]⟩) rfl rfl (Nat.le_of_ble_eq_true rfl) (by decide) ?_)
  unfold startA
  try simp only[go_sem]
  repeat' (first|refine st_seq_reg rfl (by first|(simp only[go_sem,length_map];rfl)|rfl) (by first|(simp only[go_sem,length_map];rfl)|rfl) ?_|refine st_op ?_|refine st_det rfl (by simp (disch:=omega) only[go_sem,wr_i64,if_yes,if_no,↓reduceIte,reduceAdd,reduceMul,reduceEqDiff,Nat.reduceBEq,reduceLeDiff,length_map];rfl) ?_|(refine st_pureE (by first|(simp (disch:=omega) only[go_sem,length_map];rfl)|rfl) rfl (k44) (by first|(simp only[go_sem,length_map];rfl)|rfl) (by intro n;first|(simp (disch:=omega) only[go_sem];rfl)|rfl) ?_;intro n hn)|refine st_gT rfl rfl rfl ?_|refine st_nil ?_|refine st_seq ?_|refine st_block ?_)
  all_goals try (exfalso;omega)
  refine st_loopC (α:=Nat) tab mixed [] [] (by repeat (first|exact trivial|refine ⟨rfl,?_⟩)) [] [] (by repeat (first|exact trivial|refine ⟨rfl,?_⟩)) (fun i=>[(6,.int .i64 (i:Nat)),(5,.bool true)]) [(2,_),(3,_),(4,_)] (fun _=>[]) [] (fun i=>i≤S.ws.length) (fun i=>S.ws.length - i) (by decide) 0 (Nat.zero_le _) (by (try simp only[go_sem]);repeat' (first|exact trivial|refine And.intro ?_ ?_|rfl|(simp (disch:=omega) only[go_sem,if_yes,if_no,↓reduceIte,reduceAdd,reduceMul,reduceEqDiff,Nat.reduceBEq,reduceLeDiff];rfl)|(simp (disch:=omega) only[go_sem,if_yes,if_no,↓reduceIte,reduceAdd,reduceMul,reduceEqDiff,Nat.reduceBEq,reduceLeDiff]))) (by (try simp only[go_sem]);repeat' (first|exact trivial|refine And.intro ?_ ?_|rfl|(simp (disch:=omega) only[go_sem,if_yes,if_no,↓reduceIte,reduceAdd,reduceMul,reduceEqDiff,Nat.reduceBEq,reduceLeDiff];rfl)|(simp (disch:=omega) only[go_sem,if_yes,if_no,↓reduceIte,reduceAdd,reduceMul,reduceEqDiff,Nat.reduceBEq,reduceLeDiff]))) (by first|(simp only[go_sem];rfl)|rfl) (by intro n;simp only[go_sem];rfl) ?_
  rintro i c hi hc
  simp only[go_sem]
  by_cases hil:i < S.ws.length
  · repeat' (first|refine st_seq_reg rfl (by first|(simp only[go_sem,length_map];rfl)|rfl) (by first|(simp only[go_sem,length_map];rfl)|rfl) ?_|refine st_reg rfl (by first|(simp only[go_sem,length_map];rfl)|rfl) (by first|(simp only[go_sem,length_map];rfl)|rfl) ?_|refine st_draw rfl (by first|(simp only[go_sem,length_map];rfl)|rfl) (by first|(simp only[go_sem,length_map];rfl)|rfl) ?_|refine st_op ?_|refine st_det rfl (by simp (disch:=omega) only[go_sem,wr_i64,if_yes,if_no,↓reduceIte,reduceAdd,reduceMul,reduceEqDiff,Nat.reduceBEq,reduceLeDiff,length_map];rfl) ?_|refine st_dop rfl ?_|refine st_gT rfl rfl rfl ?_|(refine st_condS rfl ?_ ?_ <;> intro hg <;> (try simp only[decide_eq_true_eq,decide_eq_false_iff_not,Bool.not_eq_true',Bool.not_eq_false'] at hg))|refine st_nil ?_|refine st_dnil ?_|refine st_tN ?_|refine st_seq ?_|refine st_block ?_|refine st_skip ?_|refine st_exit ?_|refine st_ret ?_|refine st_tE ?_|refine st_bN ?_|refine st_bH ?_)
    all_goals try (exfalso;omega)
    trace_state
    refine ⟨i+1,(by omega),by omega,(by repeat' (first|exact trivial|refine And.intro ?_ ?_|rfl|(simp (disch:=omega) only[go_sem,if_yes,if_no,↓reduceIte,reduceAdd,reduceMul,reduceEqDiff,Nat.reduceBEq,reduceLeDiff];rfl)|(simp (disch:=omega) only[go_sem,if_yes,if_no,↓reduceIte,reduceAdd,reduceMul,reduceEqDiff,Nat.reduceBEq,reduceLeDiff]))),(by repeat' (first|exact trivial|refine And.intro ?_ ?_|rfl|(simp (disch:=omega) only[go_sem,if_yes,if_no,↓reduceIte,reduceAdd,reduceMul,reduceEqDiff,Nat.reduceBEq,reduceLeDiff];rfl)|(simp (disch:=omega) only[go_sem,if_yes,if_no,↓reduceIte,reduceAdd,reduceMul,reduceEqDiff,Nat.reduceBEq,reduceLeDiff]))),rfl,(by first|exact HOld.of _ (by omega)|exact HOld.put _ _ _ (by omega))⟩
  · repeat' (first|refine st_seq_reg rfl (by first|(simp only[go_sem,length_map];rfl)|rfl) (by first|(simp only[go_sem,length_map];rfl)|rfl) ?_|refine st_reg rfl (by first|(simp only[go_sem,length_map];rfl)|rfl) (by first|(simp only[go_sem,length_map];rfl)|rfl) ?_|refine st_draw rfl (by first|(simp only[go_sem,length_map];rfl)|rfl) (by first|(simp only[go_sem,length_map];rfl)|rfl) ?_|refine st_op ?_|refine st_det rfl (by simp (disch:=omega) only[go_sem,wr_i64,if_yes,if_no,↓reduceIte,reduceAdd,reduceMul,reduceEqDiff,Nat.reduceBEq,reduceLeDiff,length_map];rfl) ?_|refine st_dop rfl ?_|refine st_gT rfl rfl rfl ?_|(refine st_condS rfl ?_ ?_ <;> intro hg <;> (try simp only[decide_eq_true_eq,decide_eq_false_iff_not,Bool.not_eq_true',Bool.not_eq_false'] at hg))|refine st_nil ?_|refine st_dnil ?_|refine st_tN ?_|refine st_seq ?_|refine st_block ?_|refine st_skip ?_|refine st_exit ?_|refine st_ret ?_|refine st_tE ?_|refine st_bN ?_|refine st_bH ?_)
    all_goals try (exfalso;omega)
    simp (disch:=omega) only[AEnd,Tryd.results20,aresK,fin,go_sem,↓reduceIte,reduceEqDiff,reduceAdd,reduceLeDiff,if_yes,if_no,implies_true,true_and,and_true,List.reverse_cons,List.reverse_nil]
end Go.Proofs.YtaijkalhkgjakaaDoor

namespace Go.Proofs.YtaijkalhkgjakaaDoor
open Go.Av
attribute [local irreducible] Shp
set_option maxRecDepth 20000
def I64 (n:Int):Prop:=-9223372036854775808≤n∧n≤9223372036854775807
theorem shpInt {d:Nat} {vs:List AV} (h:Shp Tryd.prog (d+1) 3 vs):∃ n,vs=[.int .i64 n]∧I64 n:=by
  obtain ⟨n,e,hw⟩:=shp_int Tryd.underlying3 h
  exact ⟨n,e,wf_i64 hw⟩
theorem shpNums {d:Nat} {vs:List AV} (h:Shp Tryd.prog (d+2) 26 vs):∃ l:List Int,vs=[.lst 1 (l.map iv)]∧l.length≤maxLen:=by
  obtain ⟨l,e,h1,_⟩:=shp_slice (f:=iv) (q:=fun _=>True) Tryd.underlying26 (show Tryd.prog.cellsOf 3=1 by kernel_rfl) h fun r hr=>by
    obtain ⟨x,e,_⟩:=shpInt hr
    exact ⟨x,e,trivial⟩
  exact ⟨l,e,h1⟩
theorem shpBool {d:Nat} {vs:List AV} (h:Shp Tryd.prog (d+1) 4 vs):∃ b,vs=[.bool b]:=shp_bool Tryd.underlying4 h
theorem shpWorker {d:Nat} {vs:List AV} (h:Shp Tryd.prog (d+2) 76 vs):∃ x:Wk,vs=x.row:=by
  obtain ⟨parts,rfl,hl,hp⟩:=shp_struct Tryd.underlying76 h
  match parts,hl,hp with
  | [p0,p1,p2],_,hp =>
    obtain ⟨a,rfl⟩:=shpBool (hp 0 _ p0 rfl rfl)
    obtain ⟨b,rfl⟩:=shpBool (hp 1 _ p1 rfl rfl)
    obtain ⟨c,rfl⟩:=shpBool (hp 2 _ p2 rfl rfl)
    exact ⟨⟨a,b,c⟩,rfl⟩
theorem shpJob {d:Nat} {vs:List AV} (h:Shp Tryd.prog (d+2) 80 vs):∃ x:Jb,vs=x.row:=by
  obtain ⟨parts,rfl,hl,hp⟩:=shp_struct Tryd.underlying80 h
  match parts,hl,hp with
  | [p0,p1,p2],_,hp =>
    obtain ⟨a,rfl,_⟩:=shpInt (hp 0 _ p0 rfl rfl)
    obtain ⟨b,rfl,_⟩:=shpInt (hp 1 _ p1 rfl rfl)
    obtain ⟨c,rfl,_⟩:=shpInt (hp 2 _ p2 rfl rfl)
    exact ⟨⟨a,b,c⟩,rfl⟩
theorem shpShop {d:Nat} {vs:List AV} (h:Shp Tryd.prog (d+4) 25 vs):∃ S:Sp,AV.agg vs=S.av:=by
  obtain ⟨parts,rfl,hl,hp⟩:=shp_struct Tryd.underlying25 h
  match parts,hl,hp with
  | [p0,p1],_,hp =>
    obtain ⟨a,rfl,_,_⟩:=shp_slice (f:=Wk.row) (q:=fun _=>True) Tryd.underlying22 (show Tryd.prog.cellsOf 76=3 by kernel_rfl) (hp 0 _ p0 rfl rfl) fun r hr=>by
      obtain ⟨x,e⟩:=shpWorker hr
      exact ⟨x,e,trivial⟩
    obtain ⟨b,rfl,_,_⟩:=shp_slice (f:=Jb.row) (q:=fun _=>True) Tryd.underlying23 (show Tryd.prog.cellsOf 80=3 by kernel_rfl) (hp 1 _ p1 rfl rfl) fun r hr=>by
      obtain ⟨x,e⟩:=shpJob hr
      exact ⟨x,e,trivial⟩
    exact ⟨⟨a,b⟩,rfl⟩
end Go.Proofs.YtaijkalhkgjakaaDoor

namespace Go.Proofs.YtaijkalhkgjakaaDoor
open Go.Av
attribute [local irreducible] thenA blockA awp awpOps awpD awp1
set_option maxHeartbeats 8000000
set_option maxRecDepth 20000
theorem getD_rep0 (n k:Nat):(List.replicate n (0:Int)).getD k 0=0:=by
  rw [List.getD_eq_getElem?_getD,List.getElem?_replicate];split <;> rfl
theorem pAt_rep (n k:Nat):pAt (List.replicate n (⟨0,0⟩:Sf)) k=⟨0,0⟩:=by
  unfold pAt;rw [List.getD_eq_getElem?_getD,List.getElem?_replicate];split <;> rfl
theorem rf0_xb {S:Sp} (h7:S.js.length≤7):XB S S.js.length (rf0 S):=by
  refine ⟨by simp [rf0],by simp [rf0],by simp [rf0],by simp [rf0],fun i=>?_,fun i=>?_,fun i=>?_⟩
  · show 0≤(pAt (List.replicate S.js.length ⟨0,0⟩) i).d∧(pAt (List.replicate S.js.length ⟨0,0⟩) i).d≤300
    rw [pAt_rep];exact ⟨Int.le_refl _,by decide⟩
  · show 0≤(List.replicate S.ws.length (0:Int)).getD i 0∧(List.replicate S.ws.length (0:Int)).getD i 0≤30 * (10 - S.js.length:Nat)
    rw [getD_rep0];omega
  · show 0≤(List.replicate 7 (0:Int)).getD i 0∧(List.replicate 7 (0:Int)).getD i 0≤30 * (10 - S.js.length:Nat)
    rw [getD_rep0];omega
theorem rf0_pbd (S:Sp):PBd S (List.replicate S.js.length (⟨0,0⟩:Sf)):=⟨by simp,fun i=>by rw [pAt_rep];exact ⟨Int.le_refl _,by decide⟩⟩
theorem c18 (S:Sp):Pure Tryd.prog 18 [S.av] (fun v=>v=bestV S):=by
  intro h
  by_cases hb:(bndV S).2=0
  case neg =>
    refine ACalls.forget (ACalls.of tab mixed Tryd.call18 Tryd.func18 rfl (fi:=⟨44,[7],[1],none,[(4,[0,1,3,7,0,16,48,112,0,256,768,1792,0,8191,0,32767],[(0,false),(1,true),(2,false),(3,false),(4,false),(5,true),(6,false),(7,false),(8,false),(9,true),(10,false),(11,false),(12,false),(13,false),(14,false),(15,false)])]⟩) rfl rfl (Nat.le_of_ble_eq_true rfl) (by decide) ?_)
    unfold startA
    try simp only[go_sem]
    repeat' (first|refine st_seq_reg rfl (by first|(simp only[go_sem];rfl)|rfl) (by first|(simp only[go_sem];rfl)|rfl) ?_|refine st_seq_draw rfl (by first|(simp only[go_sem];rfl)|rfl) (by first|(simp only[go_sem];rfl)|rfl) ?_|refine st_op ?_|refine st_det rfl (by simp (disch:=omega) only[go_sem,wr_i64,if_yes,if_no,↓reduceIte,reduceAdd,reduceMul,reduceEqDiff,Nat.reduceBEq,reduceLeDiff];rfl) ?_|refine st_dop rfl ?_|refine st_loc rfl (by simp (disch:=omega) only[go_sem,wr_i64,if_yes,if_no,↓reduceIte,reduceAdd,reduceMul,reduceEqDiff,Nat.reduceBEq,reduceLeDiff];rfl) ?_|refine st_heap rfl (by simp (disch:=omega) only[go_sem,wr_i64,if_yes,if_no,↓reduceIte,reduceAdd,reduceMul,reduceEqDiff,Nat.reduceBEq,reduceLeDiff];rfl) ?_|refine st_store (by simp (disch:=omega) only[go_sem,wr_i64,if_yes,if_no,↓reduceIte,reduceAdd,reduceMul,reduceEqDiff,Nat.reduceBEq,reduceLeDiff];rfl) ?_|(refine st_pureE (by first|(simp (disch:=omega) only[go_sem];rfl)|rfl) rfl (c50 S) (by first|(simp only[go_sem];rfl)|rfl) (by intro n;first|(simp (disch:=omega) only[go_sem];rfl)|rfl) ?_;intro n hn)|(refine st_condS rfl ?_ ?_ <;> intro hg <;> (try simp only[decide_eq_true_eq,decide_eq_false_iff_not,Bool.not_eq_true',Bool.not_eq_false'] at hg))|refine st_nil ?_|refine st_dnil ?_|refine st_tN ?_|refine st_seq ?_|refine st_skip ?_|refine st_ret ?_|refine st_tR ?_)
    all_goals try (exfalso;omega)
    simp (disch:=omega) only[AEnd,Tryd.results18,aresK,fin,go_sem,↓reduceIte,reduceEqDiff,reduceAdd,reduceLeDiff,if_yes,if_no,implies_true,true_and,and_true,List.reverse_cons,List.reverse_nil]
    unfold bestV;rw [if_pos hb]
  obtain ⟨hS,hL⟩:=bnd_ok hb
  have hM:=(lack_iff hS).1 hL
  have h7:=hS.n7
  have h4:=hS.m4
  refine ACalls.forget ?_
  refine ACalls.ofS tab Tryd.call18 Tryd.func18 rfl (fi:=⟨44,[7],[1],none,[(4,[0,1,3,7,0,16,48,112,0,256,768,1792,0,8191,0,32767],[(0,false),(1,true),(2,false),(3,false),(4,false),(5,true),(6,false),(7,false),(8,false),(9,true),(10,false),(11,false),(12,false),(13,false),(14,false),(15,false)])]⟩) rfl rfl (Nat.le_of_ble_eq_true rfl) ?_
  unfold startA
  try simp only[go_sem]
  refine asem_seq (fi:=⟨44,[7],[1],none,[(4,[0,1,3,7,0,16,48,112,0,256,768,1792,0,8191,0,32767],[(0,false),(1,true),(2,false),(3,false),(4,false),(5,true),(6,false),(7,false),(8,false),(9,true),(10,false),(11,false),(12,false),(13,false),(14,false),(15,false)])]⟩) tab mixed (by decide) ?_
  repeat' (first|refine st_reg rfl (by first|(simp only[go_sem];rfl)|rfl) (by first|(simp only[go_sem];rfl)|rfl) ?_|refine st_op ?_|refine st_det rfl (by simp (disch:=omega) only[go_sem,wr_i64,if_yes,if_no,↓reduceIte,reduceAdd,reduceMul,reduceEqDiff,Nat.reduceBEq,reduceLeDiff];rfl) ?_|refine st_nil ?_|refine st_tN ?_)
  refine asem_seq (fi:=⟨44,[7],[1],none,[(4,[0,1,3,7,0,16,48,112,0,256,768,1792,0,8191,0,32767],[(0,false),(1,true),(2,false),(3,false),(4,false),(5,true),(6,false),(7,false),(8,false),(9,true),(10,false),(11,false),(12,false),(13,false),(14,false),(15,false)])]⟩) tab mixed (by decide) ?_
  repeat' (first|refine st_seq_reg rfl (by first|(simp only[go_sem];rfl)|rfl) (by first|(simp only[go_sem];rfl)|rfl) ?_|refine st_op ?_|refine st_det rfl (by simp (disch:=omega) only[go_sem,wr_i64,if_yes,if_no,↓reduceIte,reduceAdd,reduceMul,reduceEqDiff,Nat.reduceBEq,reduceLeDiff];rfl) ?_|(refine st_pureE (by first|(simp (disch:=omega) only[go_sem];rfl)|rfl) rfl (c50 S) (by first|(simp only[go_sem];rfl)|rfl) (by intro n;first|(simp (disch:=omega) only[go_sem];rfl)|rfl) ?_;intro n hn)|(refine st_condS rfl ?_ ?_ <;> intro hg <;> (try simp only[decide_eq_true_eq,decide_eq_false_iff_not,Bool.not_eq_true',Bool.not_eq_false'] at hg))|refine st_nil ?_|refine st_tN ?_|refine st_skip ?_|refine st_ret ?_|refine st_tR ?_)
  all_goals try (exfalso;omega)
  refine asem_seq (fi:=⟨44,[7],[1],none,[(4,[0,1,3,7,0,16,48,112,0,256,768,1792,0,8191,0,32767],[(0,false),(1,true),(2,false),(3,false),(4,false),(5,true),(6,false),(7,false),(8,false),(9,true),(10,false),(11,false),(12,false),(13,false),(14,false),(15,false)])]⟩) tab mixed (by decide) ?_
  repeat' (first|refine st_draw rfl (by first|(simp only[go_sem,length_map];rfl)|rfl) (by first|(simp only[go_sem,length_map];rfl)|rfl) ?_|refine st_det rfl (by simp (disch:=omega) only[go_sem,wr_i64,if_yes,if_no,↓reduceIte,reduceAdd,reduceMul,reduceEqDiff,Nat.reduceBEq,reduceLeDiff,length_map];rfl) ?_|refine st_dop rfl ?_|refine st_loc rfl (by simp (disch:=omega) only[go_sem,wr_i64,if_yes,if_no,↓reduceIte,reduceAdd,reduceMul,reduceEqDiff,Nat.reduceBEq,reduceLeDiff,length_map];rfl) ?_|refine st_heap rfl (by simp (disch:=omega) only[go_sem,wr_i64,if_yes,if_no,↓reduceIte,reduceAdd,reduceMul,reduceEqDiff,Nat.reduceBEq,reduceLeDiff,length_map];rfl) ?_|refine st_store (by simp (disch:=omega) only[go_sem,wr_i64,if_yes,if_no,↓reduceIte,reduceAdd,reduceMul,reduceEqDiff,Nat.reduceBEq,reduceLeDiff,length_map];rfl) ?_|refine st_dnil ?_|refine st_tN ?_)
  all_goals try (exfalso;omega)
  obtain ⟨N0,hN0⟩:∃ m,m=n:=⟨n,rfl⟩
  subst hN0
  have e7:Int.toNat 7=7:=rfl
  have r1:List.replicate S.js.length [AV.int IntKind.i64 0,AV.int IntKind.i64 0]=(rf0 S).plan.map Sf.row:=by simp [rf0,Sf.row]
  have r2:List.replicate S.js.length [AV.bool false]=(rf0 S).dn.map bv:=by simp [rf0,bv]
  have r3:List.replicate S.ws.length [AV.int IntKind.i64 0]=(rf0 S).hands.map iv:=by simp [rf0,iv]
  have r4:List.replicate 7 [AV.int IntKind.i64 0]=(rf0 S).ready.map iv:=by simp [rf0,iv]
  simp only[e7,r1,r2,r3,r4]
  have hX:=rf0_xb (S:=S) h7
  have hP:=searchR_pbd hS S.js.length (rf0 S) ((rf0 S).plan,false) (by omega) hX (rf0_pbd S)
  have k62:=c62 S hS S.js.length (rf0 S) (rf0 S).plan false (Nat.le_refl _) hX (rf0_pbd S)
  rw [Nat.sub_self] at k62
  have hbr:(searchR S S.js.length (rf0 S) ((rf0 S).plan,false)).1=bestR S:=rfl
  rw [hbr] at hP k62
  have k63:=c63 S hS (bestR S) hP.l (fun i _=>by have:=hP.d i;omega)
  have hbd:=bestD_bestR hS hM
  have hv:bestV S=.tup [.lst 2 ((bestR S).map Sf.row),.int .i64 (takesP S (bestR S)),.int .i64 0]:=by
    unfold bestV;rw [if_neg (fun q=>q hb),hbd.1,hbd.2]
  have l1:=hX.pl
  have l2:=hX.dl
  have l3:=hX.hl
  have l4:=hX.rl
  clear r1 r2 r3 r4 hbr
  generalize rf0 S=y at *
  refine ASem.cutX (N0+1,7) (fun b'=>b'=(N0+1,21)) (cs:=[.slc (N0+1,21) 2 0 (S.js.length),.slc (N0+1,25) 1 0 (S.js.length),.slc (N0+1,29) 1 0 (S.ws.length),.slc (N0+1,30) 1 0 (7)]) (cs':=[.lst 2 (y.plan.map Sf.row),.slc (N0+1,25) 1 0 (S.js.length),.slc (N0+1,29) 1 0 (S.ws.length),.slc (N0+1,30) 1 0 (7)]) (by first|rfl|(simp only[go_sem,↓reduceIte,reduceEqDiff];done)|(simp only[go_sem,↓reduceIte,reduceEqDiff];rfl)) (.inr ⟨(N0+1,21),⟨2,y.plan.map Sf.row⟩,(by first|rfl|(simp only[go_sem,↓reduceIte,reduceEqDiff];done)|(simp only[go_sem,↓reduceIte,reduceEqDiff];rfl)),(by have q:=frz_lst (b:=(N0+1,21)) (z:=2) (l:=y.plan.map Sf.row);rw [length_map,l1] at q;simp only[frzs,q,frz_ne (b':=(N0+1,25)) (b:=(N0+1,21)) (by intro e;injection e with _ e;exact absurd e (by decide)),frz_ne (b':=(N0+1,29)) (b:=(N0+1,21)) (by intro e;injection e with _ e;exact absurd e (by decide)),frz_ne (b':=(N0+1,30)) (b:=(N0+1,21)) (by intro e;injection e with _ e;exact absurd e (by decide))]),rfl⟩) fun H1 h1a h1b h1c=>?_
  have q1:H1.at_ (N0+1,25)=some ⟨1,y.dn.map bv⟩:=(h1a _ (by intro e;injection e with _ e;exact absurd e (by decide))).trans (by first|rfl|(simp only[go_sem,↓reduceIte,reduceEqDiff];done)|(simp only[go_sem,↓reduceIte,reduceEqDiff];rfl))
  have q2:H1.at_ (N0+1,29)=some ⟨1,y.hands.map iv⟩:=(h1a _ (by intro e;injection e with _ e;exact absurd e (by decide))).trans (by first|rfl|(simp only[go_sem,↓reduceIte,reduceEqDiff];done)|(simp only[go_sem,↓reduceIte,reduceEqDiff];rfl))
  have q3:H1.at_ (N0+1,30)=some ⟨1,y.ready.map iv⟩:=(h1a _ (by intro e;injection e with _ e;exact absurd e (by decide))).trans (by first|rfl|(simp only[go_sem,↓reduceIte,reduceEqDiff];done)|(simp only[go_sem,↓reduceIte,reduceEqDiff];rfl))
  refine ASem.cutX (N0+1,7) (fun b'=>b'=(N0+1,25)) (cs:=[.lst 2 (y.plan.map Sf.row),.slc (N0+1,25) 1 0 (S.js.length),.slc (N0+1,29) 1 0 (S.ws.length),.slc (N0+1,30) 1 0 (7)]) (cs':=[.lst 2 (y.plan.map Sf.row),.lst 1 (y.dn.map bv),.slc (N0+1,29) 1 0 (S.ws.length),.slc (N0+1,30) 1 0 (7)]) (by first|rfl|(simp only[go_sem,↓reduceIte,reduceEqDiff];done)|(simp only[go_sem,↓reduceIte,reduceEqDiff];rfl)) (.inr ⟨(N0+1,25),⟨1,y.dn.map bv⟩,q1,(by have q:=frz_lst (b:=(N0+1,25)) (z:=1) (l:=y.dn.map bv);rw [length_map,l2] at q;simp only[frzs,q,tSf y.plan (N0+1,25) ⟨1,y.dn.map bv⟩,frz_ne (b':=(N0+1,29)) (b:=(N0+1,25)) (by intro e;injection e with _ e;exact absurd e (by decide)),frz_ne (b':=(N0+1,30)) (b:=(N0+1,25)) (by intro e;injection e with _ e;exact absurd e (by decide))]),rfl⟩) fun H2 h2a h2b h2c=>?_
  have q2:H2.at_ (N0+1,29)=some ⟨1,y.hands.map iv⟩:=(h2a _ (by intro e;injection e with _ e;exact absurd e (by decide))).trans q2
  have q3:H2.at_ (N0+1,30)=some ⟨1,y.ready.map iv⟩:=(h2a _ (by intro e;injection e with _ e;exact absurd e (by decide))).trans q3
  refine ASem.cutX (N0+1,7) (fun b'=>b'=(N0+1,29)) (cs:=[.lst 2 (y.plan.map Sf.row),.lst 1 (y.dn.map bv),.slc (N0+1,29) 1 0 (S.ws.length),.slc (N0+1,30) 1 0 (7)]) (cs':=[.lst 2 (y.plan.map Sf.row),.lst 1 (y.dn.map bv),.lst 1 (y.hands.map iv),.slc (N0+1,30) 1 0 (7)]) (by first|rfl|(simp only[go_sem,↓reduceIte,reduceEqDiff];done)|(simp only[go_sem,↓reduceIte,reduceEqDiff];rfl)) (.inr ⟨(N0+1,29),⟨1,y.hands.map iv⟩,q2,(by have q:=frz_lst (b:=(N0+1,29)) (z:=1) (l:=y.hands.map iv);rw [length_map,l3] at q;simp only[frzs,q,tSf y.plan (N0+1,29) ⟨1,y.hands.map iv⟩,tBv y.dn (N0+1,29) ⟨1,y.hands.map iv⟩,frz_ne (b':=(N0+1,30)) (b:=(N0+1,29)) (by intro e;injection e with _ e;exact absurd e (by decide))]),rfl⟩) fun H3 h3a h3b h3c=>?_
  have q3:H3.at_ (N0+1,30)=some ⟨1,y.ready.map iv⟩:=(h3a _ (by intro e;injection e with _ e;exact absurd e (by decide))).trans q3
  refine ASem.cutX (N0+1,7) (fun b'=>b'=(N0+1,30)) (cs:=[.lst 2 (y.plan.map Sf.row),.lst 1 (y.dn.map bv),.lst 1 (y.hands.map iv),.slc (N0+1,30) 1 0 (7)]) (cs':=[.lst 2 (y.plan.map Sf.row),.lst 1 (y.dn.map bv),.lst 1 (y.hands.map iv),.lst 1 (y.ready.map iv)]) (by first|rfl|(simp only[go_sem,↓reduceIte,reduceEqDiff];done)|(simp only[go_sem,↓reduceIte,reduceEqDiff];rfl)) (.inr ⟨(N0+1,30),⟨1,y.ready.map iv⟩,q3,(by have q:=frz_lst (b:=(N0+1,30)) (z:=1) (l:=y.ready.map iv);rw [length_map,l4] at q;simp only[frzs,q,tSf y.plan (N0+1,30) ⟨1,y.ready.map iv⟩,tBv y.dn (N0+1,30) ⟨1,y.ready.map iv⟩,tIv y.hands (N0+1,30) ⟨1,y.ready.map iv⟩]),rfl⟩) fun H4 h4a h4b h4c=>?_
  refine asem_awp (fi:=⟨44,[7],[1],none,[(4,[0,1,3,7,0,16,48,112,0,256,768,1792,0,8191,0,32767],[(0,false),(1,true),(2,false),(3,false),(4,false),(5,true),(6,false),(7,false),(8,false),(9,true),(10,false),(11,false),(12,false),(13,false),(14,false),(15,false)])]⟩) tab mixed (by decide) ?_
  repeat' (first|refine st_seq_reg rfl (by first|(simp only[go_sem];rfl)|rfl) (by first|(simp only[go_sem];rfl)|rfl) ?_|refine st_op ?_|refine st_det rfl (by simp (disch:=omega) only[go_sem,wr_i64,if_yes,if_no,↓reduceIte,reduceAdd,reduceMul,reduceEqDiff,Nat.reduceBEq,reduceLeDiff];rfl) ?_|(refine st_pureE (by first|(simp (disch:=omega) only[go_sem];rfl)|rfl) rfl (k62) (by first|(simp only[go_sem];rfl)|rfl) (by intro n;first|(simp (disch:=omega) only[go_sem];rfl)|rfl) ?_;intro n hn)|(refine st_pureE (by first|(simp (disch:=omega) only[go_sem];rfl)|rfl) rfl (k63) (by first|(simp only[go_sem];rfl)|rfl) (by intro n;first|(simp (disch:=omega) only[go_sem];rfl)|rfl) ?_;intro n hn)|refine st_nil ?_|refine st_ret ?_)
  all_goals try (exfalso;omega)
  simp (disch:=omega) only[AEnd,Tryd.results18,aresK,fin,go_sem,↓reduceIte,reduceEqDiff,reduceAdd,reduceLeDiff,if_yes,if_no,implies_true,true_and,and_true,List.reverse_cons,List.reverse_nil]
  refine ⟨fun b' hb'=>?_,?_,hv.symm⟩
  · have z:∀ d:Nat,b' ≠ (N0+1,d):=fun d e=>by rw [e] at hb';exact absurd hb' (by show ¬ N0+1 < h.clk;omega)
    show H4.at_ b'=_
    rw [h4a b' (z _),h3a b' (z _),h2a b' (z _),h1a b' (z _)]
    simp only[put_ne _ _ (z _)]
    rfl
  · show H4.lp=h.lp
    rw [h4c,h3c,h2c,h1c];rfl
end Go.Proofs.YtaijkalhkgjakaaDoor
