/- Contracts of functions that the claim reaches: what each call gives, told in our own logic. Conditions: those of each theorem. -/
import Derived.Test.YtaijkalhkgjakaaDoorG34
open Nat (reduceAdd reduceMul reduceEqDiff reduceLeDiff)
open List (length_map)
set_option linter.all false
set_option linter.unusedSimpArgs false
set_option linter.unusedVariables false
namespace Go.Proofs.YtaijkalhkgjakaaDoor
open Go.Av
attribute [local irreducible] thenA blockA awp awpOps awpD awp1
set_option maxHeartbeats 8000000
set_option maxRecDepth 20000
theorem c16h (S:Sp) (hw:(S.ws.length:Int) < 1000000) (hj:(S.js.length:Int) < 1000000) (h:AH):ACalls Tryd.prog 16 [S.av] h (fun v g=>∃ b1 b2:Bid,v=.agg [.slc b1 3 0 S.ws.length,.slc b2 3 0 S.js.length]∧b1 ≠ b2∧h.clk≤b1.1∧h.clk≤b2.1∧b1.1 < g.clk∧b2.1 < g.clk∧g.at_ b1=some ⟨3,S.ws.map Wk.row⟩∧g.at_ b2=some ⟨3,S.js.map Jb.row⟩∧(∀ b:Bid,b.1 < h.clk→g.at_ b=h.at_ b)∧g.lp=h.lp):=by
  refine ACalls.of tab mixed Tryd.call16 Tryd.func16 rfl (fi:=⟨12,[2],[1,1000001],none,[(1,[0,0,2,7,0,0,32,127,255,511],[(0,false),(1,false),(2,true),(5,false),(6,true),(3,false),(4,false),(7,false),(8,false),(9,false)])]⟩) rfl rfl (Nat.le_of_ble_eq_true rfl) (by decide) ?_
  unfold startA
  try simp only[go_sem]
  repeat' (first|refine st_seq_reg rfl (by first|(simp only[go_sem];rfl)|rfl) (by first|(simp only[go_sem];rfl)|rfl) ?_|refine st_op ?_|refine st_det rfl (by simp (disch:=omega) only[go_sem,wr_i64,if_yes,if_no,↓reduceIte,reduceAdd,reduceMul,reduceEqDiff,Nat.reduceBEq,reduceLeDiff];rfl) ?_|refine st_loc rfl (by simp (disch:=omega) only[go_sem,wr_i64,if_yes,if_no,↓reduceIte,reduceAdd,reduceMul,reduceEqDiff,Nat.reduceBEq,reduceLeDiff];rfl) ?_|refine st_nil ?_|refine st_seq ?_)
  refine st_free ?_
  refine st_drawL tab mixed (f2:=⟨12,[2],[1],none,[(1,[0,0,2,7,0,0,32,127,255,511],[(0,false),(1,false),(2,true),(5,false),(6,true),(3,false),(4,false),(7,false),(8,false),(9,false)])]⟩) [4] rfl rfl (by first|(simp only[go_sem];rfl)|rfl) (by first|(simp only[go_sem];rfl)|rfl) (by first|(simp only[go_sem];rfl)|rfl) (by intro i o hi ho;obtain rfl:i=4:=(by simpa using hi);cases ho;exact ⟨7,3,rfl,rfl⟩) (by decide) ?_
  repeat' (first|refine st_det rfl (by simp (disch:=omega) only[go_sem,wr_i64,if_yes,if_no,↓reduceIte,reduceAdd,reduceMul,reduceEqDiff,Nat.reduceBEq,reduceLeDiff,length_map,big,Nat.zero_add];rfl) ?_|refine st_dop rfl ?_|refine st_heap rfl (by simp (disch:=omega) only[go_sem,wr_i64,if_yes,if_no,↓reduceIte,reduceAdd,reduceMul,reduceEqDiff,Nat.reduceBEq,reduceLeDiff,length_map,big,Nat.zero_add];rfl) ?_|refine st_store (by simp (disch:=omega) only[go_sem,wr_i64,if_yes,if_no,↓reduceIte,reduceAdd,reduceMul,reduceEqDiff,Nat.reduceBEq,reduceLeDiff,length_map,big,Nat.zero_add];rfl) ?_|refine st_append (by simp (disch:=omega) only[go_sem,wr_i64,if_yes,if_no,↓reduceIte,reduceAdd,reduceMul,reduceEqDiff,Nat.reduceBEq,reduceLeDiff,length_map,big,Nat.zero_add];rfl) ?_|refine st_dnil ?_|refine st_tN ?_|refine st_ret ?_)
  all_goals try (exfalso;omega)
  simp (disch:=omega) only[AEnd,Tryd.results16,aresK,fin,go_sem,↓reduceIte,reduceEqDiff,reduceAdd,reduceLeDiff,if_yes,if_no,implies_true,true_and,and_true,List.reverse_cons,List.reverse_nil]
  refine ⟨_,_,rfl,fun e=>(by injection e with _ e2;exact absurd e2 (by decide)),(by show h.clk≤h.clk+1;omega),(by show h.clk≤h.clk+1;omega),(by show h.clk+1 < h.clk+1+1;omega),(by show h.clk+1 < h.clk+1+1;omega),(by simp),(by simp),fun b hb=>?_⟩
  have hb0:∀ d,¬ b=(h.clk+1,d):=fun d e=>by rw [e] at hb;exact absurd hb (by show ¬ h.clk+1 < h.clk;omega)
  rw [if_neg (hb0 _),if_neg (hb0 _),if_neg (hb0 _),if_neg (hb0 _)]
theorem c16j (S:Sp) (hw:(S.ws.length:Int) < 1000000) (hj:(S.js.length:Int) < 1000000) (h:AH):ACalls Tryd.prog 16 [S.av] h (fun v g=>∃ b1:Bid,v=.agg [.slc b1 3 0 S.ws.length,.lst 3 (S.js.map Jb.row)]∧h.clk≤b1.1∧b1.1 < g.clk∧g.at_ b1=some ⟨3,S.ws.map Wk.row⟩∧(∀ b:Bid,b.1 < h.clk→g.at_ b=h.at_ b)∧g.lp=h.lp):=by
  refine ACalls.old Tryd.call16 fun hall=>?_
  refine ((c16h S hw hj h).mono ?_).give
  rintro v g ⟨b1,b2,rfl,hne,h1,h2,h3,h4,h5,h6,h7,h8⟩
  refine .inr ⟨b2,_,h6,?_,b1,?_,h1,h3,(put_ne _ _ hne).trans h5,fun b hb=>?_,h8⟩
  · cases e:h.at_ b2 with
    | none=>rfl
    | some k=>exact absurd (hall b2 k e) (by omega)
  · have e:=frz_lst (b:=b2) (z:=3) (l:=S.js.map Jb.row)
    rw [length_map] at e
    simp only[frz,frzs]
    simp only[frz] at e
    rw [if_neg (fun hh=>hne hh.1),e]
  · rw [put_ne _ _ (fun e=>by rw [e] at hb;omega)];exact h7 b hb
theorem c16w (S:Sp) (hw:(S.ws.length:Int) < 1000000) (hj:(S.js.length:Int) < 1000000) (h:AH):ACalls Tryd.prog 16 [S.av] h (fun v g=>∃ b2:Bid,v=.agg [.lst 3 (S.ws.map Wk.row),.slc b2 3 0 S.js.length]∧h.clk≤b2.1∧b2.1 < g.clk∧g.at_ b2=some ⟨3,S.js.map Jb.row⟩∧(∀ b:Bid,b.1 < h.clk→g.at_ b=h.at_ b)∧g.lp=h.lp):=by
  refine ACalls.old Tryd.call16 fun hall=>?_
  refine ((c16h S hw hj h).mono ?_).give
  rintro v g ⟨b1,b2,rfl,hne,h1,h2,h3,h4,h5,h6,h7,h8⟩
  refine .inr ⟨b1,_,h5,?_,b2,?_,h2,h4,(put_ne _ _ hne.symm).trans h6,fun b hb=>?_,h8⟩
  · cases e:h.at_ b1 with
    | none=>rfl
    | some k=>exact absurd (hall b1 k e) (by omega)
  · have e:=frz_lst (b:=b1) (z:=3) (l:=S.ws.map Wk.row)
    rw [length_map] at e
    simp only[frz,frzs]
    simp only[frz] at e
    rw [e,if_neg (fun hh=>hne hh.1.symm)]
  · rw [put_ne _ _ (fun e=>by rw [e] at hb;omega)];exact h7 b hb
theorem c16 (S:Sp) (hw:(S.ws.length:Int) < 1000000) (hj:(S.js.length:Int) < 1000000):Pure Tryd.prog 16 [S.av] (fun v=>v=S.av):=by
  refine Pure.give Tryd.call16 fun h hall=>?_
  refine (c16j S hw hj h).mono ?_
  rintro v g ⟨b1,rfl,h1,h2,h3,h4,h5⟩
  refine ⟨h4,h5,.inr ⟨b1,_,h1,h3,?_⟩⟩
  have e:=frz_lst (b:=b1) (z:=3) (l:=S.ws.map Wk.row)
  rw [length_map] at e
  show AV.agg [frz b1 _ (.slc b1 3 0 S.ws.length),frz b1 _ (.lst 3 (S.js.map Jb.row))]=S.av
  rw [e,sJb S.js];rfl
theorem c20s (S:Sp) (hw:(S.ws.length:Int) < 1000000) (hj:(S.js.length:Int) < 1000000):Pure Tryd.prog 20 [S.av,S.av] (fun v=>v=.bool true):=by
  intro h
  have k44:=c44 S.js S.js hj hj
  rw [decide_eq_true rfl] at k44
  refine ACalls.forget (ACalls.of tab mixed Tryd.call20 Tryd.func20 rfl (fi:=⟨43,[],[2,3],none,[(5,[0,1,0,7,15,0,32,0,224,480,1023,2047],[(0,false),(1,true),(2,false),(3,false),(4,true),(5,false),(6,true),(7,false),(8,false),(9,true),(10,false),(11,false)])]⟩) rfl rfl (Nat.le_of_ble_eq_true rfl) (by decide) ?_)
  unfold startA
  try simp only[go_sem]
  repeat' (first|refine st_seq_reg rfl (by first|(simp only[go_sem,length_map];rfl)|rfl) (by first|(simp only[go_sem,length_map];rfl)|rfl) ?_|refine st_op ?_|refine st_det rfl (by simp (disch:=omega) only[go_sem,wr_i64,if_yes,if_no,↓reduceIte,reduceAdd,reduceMul,reduceEqDiff,Nat.reduceBEq,reduceLeDiff,length_map];rfl) ?_|(refine st_pureE (by first|(simp (disch:=omega) only[go_sem,length_map];rfl)|rfl) rfl (k44) (by first|(simp only[go_sem,length_map];rfl)|rfl) (by intro n;first|(simp (disch:=omega) only[go_sem];rfl)|rfl) ?_;intro n hn)|refine st_gT rfl rfl rfl ?_|refine st_nil ?_|refine st_seq ?_|refine st_block ?_)
  all_goals try (exfalso;omega)
  refine st_loopC (α:=Nat) tab mixed [] [] (by repeat (first|exact trivial|refine ⟨rfl,?_⟩)) [] [] (by repeat (first|exact trivial|refine ⟨rfl,?_⟩)) (fun i=>[(6,.int .i64 (i:Nat)),(5,.bool true)]) [(2,_),(3,_),(4,_)] (fun _=>[]) [] (fun i=>i≤S.ws.length) (fun i=>S.ws.length - i) (by decide) 0 (Nat.zero_le _) (by (try simp only[go_sem]);repeat' (first|exact trivial|refine And.intro ?_ ?_|rfl|(simp (disch:=omega) only[go_sem,if_yes,if_no,↓reduceIte,reduceAdd,reduceMul,reduceEqDiff,Nat.reduceBEq,reduceLeDiff];rfl)|(simp (disch:=omega) only[go_sem,if_yes,if_no,↓reduceIte,reduceAdd,reduceMul,reduceEqDiff,Nat.reduceBEq,reduceLeDiff]))) (by (try simp only[go_sem]);repeat' (first|exact trivial|refine And.intro ?_ ?_|rfl|(simp (disch:=omega) only[go_sem,if_yes,if_no,↓reduceIte,reduceAdd,reduceMul,reduceEqDiff,Nat.reduceBEq,reduceLeDiff];rfl)|(simp (disch:=omega) only[go_sem,if_yes,if_no,↓reduceIte,reduceAdd,reduceMul,reduceEqDiff,Nat.reduceBEq,reduceLeDiff]))) (by first|(simp only[go_sem];rfl)|rfl) (by intro n;simp only[go_sem];rfl) ?_
  rintro i c hi hc
  simp only[go_sem]
  by_cases hil:i < S.ws.length
  · repeat' (first|refine st_seq_reg rfl (by first|(simp only[go_sem,length_map];rfl)|rfl) (by first|(simp only[go_sem,length_map];rfl)|rfl) ?_|refine st_reg rfl (by first|(simp only[go_sem,length_map];rfl)|rfl) (by first|(simp only[go_sem,length_map];rfl)|rfl) ?_|refine st_draw rfl (by first|(simp only[go_sem,length_map];rfl)|rfl) (by first|(simp only[go_sem,length_map];rfl)|rfl) ?_|refine st_op ?_|refine st_det rfl (by simp (disch:=omega) only[go_sem,wr_i64,if_yes,if_no,↓reduceIte,reduceAdd,reduceMul,reduceEqDiff,Nat.reduceBEq,reduceLeDiff,length_map];rfl) ?_|refine st_dop rfl ?_|refine st_gT rfl rfl rfl ?_|(refine st_condS rfl ?_ ?_ <;> intro hg <;> (try simp only[decide_eq_true_eq,decide_eq_false_iff_not,Bool.not_eq_true',Bool.not_eq_false'] at hg))|refine st_nil ?_|refine st_dnil ?_|refine st_tN ?_|refine st_seq ?_|refine st_block ?_|refine st_skip ?_|refine st_exit ?_|refine st_ret ?_|refine st_tE ?_|refine st_bN ?_|refine st_bH ?_)
    all_goals try (exfalso;omega)
    trace_state
    refine ⟨i+1,(by omega),by omega,(by repeat' (first|exact trivial|refine And.intro ?_ ?_|rfl|(simp (disch:=omega) only[go_sem,if_yes,if_no,↓reduceIte,reduceAdd,reduceMul,reduceEqDiff,Nat.reduceBEq,reduceLeDiff];rfl)|(simp (disch:=omega) only[go_sem,if_yes,if_no,↓reduceIte,reduceAdd,reduceMul,reduceEqDiff,Nat.reduceBEq,reduceLeDiff]))),(by repeat' (first|exact trivial|refine And.intro ?_ ?_|rfl|(simp (disch:=omega) only[go_sem,if_yes,if_no,↓reduceIte,reduceAdd,reduceMul,reduceEqDiff,Nat.reduceBEq,reduceLeDiff];rfl)|(simp (disch:=omega) only[go_sem,if_yes,if_no,↓reduceIte,reduceAdd,reduceMul,reduceEqDiff,Nat.reduceBEq,reduceLeDiff]))),rfl,(by first|exact HOld.of _ (by omega)|exact HOld.put _ _ _ (by omega))⟩
  · repeat' (first|refine st_seq_reg rfl (by first|(simp only[go_sem,length_map];rfl)|rfl) (by first|(simp only[go_sem,length_map];rfl)|rfl) ?_|refine st_reg rfl (by first|(simp only[go_sem,length_map];rfl)|rfl) (by first|(simp only[go_sem,length_map];rfl)|rfl) ?_|refine st_draw rfl (by first|(simp only[go_sem,length_map];rfl)|rfl) (by first|(simp only[go_sem,length_map];rfl)|rfl) ?_|refine st_op ?_|refine st_det rfl (by simp (disch:=omega) only[go_sem,wr_i64,if_yes,if_no,↓reduceIte,reduceAdd,reduceMul,reduceEqDiff,Nat.reduceBEq,reduceLeDiff,length_map];rfl) ?_|refine st_dop rfl ?_|refine st_gT rfl rfl rfl ?_|(refine st_condS rfl ?_ ?_ <;> intro hg <;> (try simp only[decide_eq_true_eq,decide_eq_false_iff_not,Bool.not_eq_true',Bool.not_eq_false'] at hg))|refine st_nil ?_|refine st_dnil ?_|refine st_tN ?_|refine st_seq ?_|refine st_block ?_|refine st_skip ?_|refine st_exit ?_|refine st_ret ?_|refine st_tE ?_|refine st_bN ?_|refine st_bH ?_)
    all_goals try (exfalso;omega)
    simp (disch:=omega) only[AEnd,Tryd.results20,aresK,fin,go_sem,↓reduceIte,reduceEqDiff,reduceAdd,reduceLeDiff,if_yes,if_no,implies_true,true_and,and_true,List.reverse_cons,List.reverse_nil]
structure PlS where
  i:Nat
  x:Int
  d:Int
  v:AV
  ps:List Sf
  g:AH
theorem c45 (S:Sp) (hS:S.Ok) (b:Nat × Nat):Drum Tryd.prog 45 [.ptr b 0 0,S.av] b (fun v=>∃ p:List Sf,v=.lst 2 (p.map Sf.row)∧p.length=S.js.length):=by
  have h7:=hS.n7
  have h4:=hS.m4
  have h0:=hS.m0
  refine Drum.give Tryd.call45 fun h x hx hu hold=>?_
  have nbb:∀ {b1:Nat × Nat},h.clk≤b1.1→¬ b1=b:=fun hb e=>by rw [e] at hb;omega
  refine ACalls.of tab mixed Tryd.call45 Tryd.func45 rfl (fi:=⟨46,[],[3,26,42],none,[(7,[0,0,0,4,0,28,60,124,0,256,0,1792,3840,7936,16380,32766,65535,131071],[(0,false),(1,false),(2,false),(3,true),(4,false),(5,false),(6,false),(7,true),(8,false),(9,true),(10,false),(11,false),(12,false),(13,true),(14,false),(15,false),(16,false),(17,false)])]⟩) rfl rfl (Nat.le_of_ble_eq_true rfl) (by decide) ?_
  unfold startA
  try simp only[go_sem]
  repeat' (first|refine st_seq_reg rfl (by first|(simp only[go_sem,hx];rfl)|rfl) (by first|(simp only[go_sem,hx];rfl)|rfl) ?_|refine st_op ?_|refine st_det rfl (by simp (disch:=omega) only[go_sem,wr_i64,if_yes,if_no,↓reduceIte,reduceAdd,reduceMul,reduceEqDiff,Nat.reduceBEq,reduceLeDiff,hx];rfl) ?_|refine st_nil ?_|refine st_seq ?_|refine st_block ?_)
  refine st_loopH (α:=PlS) tab mixed [] [] (by repeat (first|exact trivial|refine ⟨rfl,?_⟩)) [] [] (by repeat (first|exact trivial|refine ⟨rfl,?_⟩)) (fun a=>[(7,.int .i64 (a.i:Nat)),(6,.int .i64 a.d),(5,a.v)]) [(0,_),(3,_),(4,_)] (fun _=>[]) [] (fun a=>a.g) (fun a=>Gd h b a.x a.g∧a.i≤S.js.length∧a.ps.length=a.i∧(0≤a.d∧a.d≤100 * a.i)∧SlA h.clk a.g a.v 2 (a.ps.map Sf.row)) (fun a=>S.js.length - a.i) (by decide) ⟨0,x,0,.nils,[],_⟩ (by refine ⟨⟨by assumption,by simp only[go_sem];exact hx,fun b' _ h2=>rfl,rfl,by simp only[go_sem];omega⟩,Nat.zero_le _,rfl,by simp,.inl ⟨rfl,rfl⟩⟩) (by (try simp only[go_sem]);repeat' (first|exact trivial|refine And.intro ?_ ?_|rfl|(simp (disch:=omega) only[go_sem,if_yes,if_no,↓reduceIte,reduceAdd,reduceMul,reduceEqDiff,Nat.reduceBEq,reduceLeDiff];rfl)|(simp (disch:=omega) only[go_sem,if_yes,if_no,↓reduceIte,reduceAdd,reduceMul,reduceEqDiff,Nat.reduceBEq,reduceLeDiff]))) (by (try simp only[go_sem]);repeat' (first|exact trivial|refine And.intro ?_ ?_|rfl|(simp (disch:=omega) only[go_sem,if_yes,if_no,↓reduceIte,reduceAdd,reduceMul,reduceEqDiff,Nat.reduceBEq,reduceLeDiff];rfl)|(simp (disch:=omega) only[go_sem,if_yes,if_no,↓reduceIte,reduceAdd,reduceMul,reduceEqDiff,Nat.reduceBEq,reduceLeDiff]))) (HOld.refl _) ?_
  rintro ⟨i,x1,d,v,ps,g⟩ c ⟨hG,hi,hpl,hd,hS2⟩ hc
  dsimp only at hG hi hpl hd hS2 hc
  have hu1:=hG.u
  have hd1:=hG.d
  have hcl0:=hG.cl
  simp only[go_sem]
  have hnc:=hS2.noL
  by_cases hil:i < S.js.length
  case neg =>
    have ei:i=S.js.length:=by omega
    subst ei
    repeat' (first|refine st_seq_reg rfl (by first|(simp only[go_sem,length_map,hnc];rfl)|rfl) (by first|(simp only[go_sem,length_map,hnc];rfl)|rfl) ?_|refine st_op ?_|refine st_det rfl (by simp (disch:=omega) only[go_sem,wr_i64,if_yes,if_no,↓reduceIte,reduceAdd,reduceMul,reduceEqDiff,Nat.reduceBEq,reduceLeDiff,length_map,hnc];rfl) ?_|(refine st_condS rfl ?_ ?_ <;> intro hg <;> (try simp only[decide_eq_true_eq,decide_eq_false_iff_not,Bool.not_eq_true',Bool.not_eq_false'] at hg))|refine st_nil ?_|refine st_tN ?_|refine st_seq ?_|refine st_block ?_|refine st_skip ?_|refine st_exit ?_|refine st_ret ?_|refine st_tE ?_|refine st_bH ?_)
    all_goals try (exfalso;omega)
    simp (disch:=omega) only[AEnd,Tryd.results45,aresK,fin,go_sem,↓reduceIte,reduceEqDiff,reduceAdd,reduceLeDiff,if_yes,if_no,implies_true,true_and,and_true,List.reverse_cons,List.reverse_nil]
    refine ⟨hnc,hG.old,⟨x1,hG.d,hG.u⟩,hG.lp,?_⟩
    exact SlA.ans (R:=fun v=>∃ p:List Sf,v=.lst 2 (p.map Sf.row)∧p.length=S.js.length) hS2 ⟨ps,rfl,hpl⟩
  have hji:=hS.j (show i < S.js.length by omega)
  unfold Jb.Ok at hji
  have eji:S.j i=jOf S.js i:=rfl
  rw [eji] at hji
  have k65:=c65 b [0,(jOf S.js i).d,(jOf S.js i).d] (by simp) (by simp)
  simp only[List.map_cons,List.map_nil,iv] at k65
  repeat' (first|refine st_seq_reg rfl (by first|(simp only[go_sem,hd1,hnc,length_map];rfl)|rfl) (by first|(simp only[go_sem,hd1,hnc,length_map];rfl)|rfl) ?_|refine st_draw rfl (by first|(simp only[go_sem,hd1,hnc,length_map];rfl)|rfl) (by first|(simp only[go_sem,hd1,hnc,length_map];rfl)|rfl) ?_|refine st_op ?_|refine st_det rfl (by simp (disch:=omega) only[go_sem,wr_i64,if_yes,if_no,↓reduceIte,reduceAdd,reduceMul,reduceEqDiff,Nat.reduceBEq,reduceLeDiff,hd1,hnc,length_map];rfl) ?_|refine st_dop rfl ?_|(refine st_drum (by first|(simp (disch:=omega) only[go_sem,hd1,hnc,length_map];rfl)|rfl) rfl (c39' b S.ws.length (by omega)) (by first|(simp (disch:=omega) only[go_sem,hd1,hnc,length_map];rfl)|rfl|exact put_same _ _ _) (by assumption) (by first|(simp only[go_sem,hd1,hnc,length_map];rfl)|rfl) (by intro x' n;first|(simp (disch:=omega) only[go_sem];rfl)|rfl) ?_;rintro v x' n hu' ⟨r1,rfl,hr1⟩ hn)|(refine st_drum (by first|(simp (disch:=omega) only[go_sem,hd1,hnc,length_map];rfl)|rfl) rfl (c39' b 2 (by decide)) (by first|(simp (disch:=omega) only[go_sem,hd1,hnc,length_map];rfl)|rfl|exact put_same _ _ _) (by assumption) (by first|(simp only[go_sem,hd1,hnc,length_map];rfl)|rfl) (by intro x' n;first|(simp (disch:=omega) only[go_sem];rfl)|rfl) ?_;rintro v x' n hu' ⟨r2,rfl,hr2⟩ hn)|(refine st_appS (by intro h id x y;simp only[go_sem];rfl) rfl (by simp only[go_sem,hd1,hnc,length_map];rfl) (by first|(simp only[go_sem,hd1,hnc,length_map];rfl)|rfl) (by decide) hS2 (fun b1 m e=>by simp only[go_sem,nbb (hS2.lt e).1,↓reduceIte]) (by omega) (by simp only[length_map,List.length_cons,List.length_nil,big,hd1,hnc,length_map];omega) (by omega) (by omega) ?_;intro v' g' hA)|(refine st_condS rfl ?_ ?_ <;> intro hg <;> (try simp only[decide_eq_true_eq,decide_eq_false_iff_not,Bool.not_eq_true',Bool.not_eq_false'] at hg))|refine st_nil ?_|refine st_tN ?_|refine st_seq ?_|refine st_block ?_|refine st_skip ?_|refine st_exit ?_|refine st_ret ?_|refine st_tE ?_|refine st_bH ?_)
  all_goals try (exfalso;omega)
  have hnv:=hA.nol
  have hcl:=hA.sl.cell
  have hcv:=cells_one' hcl
  have hd3:g'.at_ b=dr x':=(hA.old b hold).trans (put_same _ _ _)
  have hG2:=(hG.put (by assumption) (n:=n) (by omega)).app hold (Nat.le_refl _) hA (N:=n+1) (by (try simp only[go_sem]);omega)
  have hS3:=hA.sl
  rename_i x2 n2 hu2 _
  repeat' (first|refine st_reg rfl (by first|(simp only[go_sem,hnv,hcl,hcv,hd3,length_map];rfl)|rfl) (by first|(simp only[go_sem,hnv,hcl,hcv,hd3,length_map];rfl)|rfl) ?_|refine st_op ?_|refine st_det rfl (by simp (disch:=omega) only[go_sem,wr_i64,if_yes,if_no,↓reduceIte,reduceAdd,reduceMul,reduceEqDiff,Nat.reduceBEq,reduceLeDiff,hnv,hcl,hcv,hd3,length_map];rfl) ?_|refine st_dop rfl ?_|(refine st_drum (by first|(simp (disch:=omega) only[go_sem,hnv,hcl,hcv,hd3,length_map];rfl)|rfl) rfl (k65) (by first|(simp (disch:=omega) only[go_sem,hnv,hcl,hcv,hd3,length_map];rfl)|rfl|exact put_same _ _ _) (by assumption) (by first|(simp only[go_sem,hnv,hcl,hcv,hd3,length_map];rfl)|rfl) (by intro x' n;first|(simp (disch:=omega) only[go_sem];rfl)|rfl) ?_;rintro v x' n hu' ⟨r3,rfl,hr3⟩ hn)|refine st_nil ?_|refine st_dnil ?_|refine st_tN ?_|refine st_bN ?_)
  all_goals try (exfalso;omega)
  have hr3':0≤r3∧r3≤30:=by
    simp only[List.mem_cons,List.not_mem_nil,or_false] at hr3
    omega
  have hwr:wr .i64 (d+r3)=d+r3:=wr_i64 (by omega)
  refine ⟨⟨i+1,_,d+r3,v',ps ++ [⟨r1,d+r2⟩],_⟩,(by refine ⟨hG2.put (by assumption) (n:=n+1) (by (try simp only[go_sem]);omega),by show i+1≤_;omega,by simp;omega,by dsimp only;omega,by rw [List.map_append];exact slA_put (hS3.to (fun _ _ _ _ _=>rfl) (by (try simp only[go_sem]);omega)) hold (by (try simp only[go_sem]);omega)⟩),(by show S.js.length - (i+1) < S.js.length - i;omega),(by (try (simp only[hwr]));repeat' (first|exact trivial|refine And.intro ?_ ?_|rfl|(simp (disch:=omega) only[go_sem,if_yes,if_no,↓reduceIte,reduceAdd,reduceMul,reduceEqDiff,Nat.reduceBEq,reduceLeDiff];rfl)|(simp (disch:=omega) only[go_sem,if_yes,if_no,↓reduceIte,reduceAdd,reduceMul,reduceEqDiff,Nat.reduceBEq,reduceLeDiff]))),(by (try (simp only[hwr]));repeat' (first|exact trivial|refine And.intro ?_ ?_|rfl|(simp (disch:=omega) only[go_sem,if_yes,if_no,↓reduceIte,reduceAdd,reduceMul,reduceEqDiff,Nat.reduceBEq,reduceLeDiff];rfl)|(simp (disch:=omega) only[go_sem,if_yes,if_no,↓reduceIte,reduceAdd,reduceMul,reduceEqDiff,Nat.reduceBEq,reduceLeDiff]))),rfl,HOld.refl _⟩
end Go.Proofs.YtaijkalhkgjakaaDoor
