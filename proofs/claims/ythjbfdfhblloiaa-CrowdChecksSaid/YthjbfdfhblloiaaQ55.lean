/- Contracts of functions that the claim reaches: what each call gives, told in our own logic. Conditions: those of each theorem. -/
import Derived.Test.YthjbfdfhblloiaaW15
import Derived.Test.YthjbfdfhblloiaaQ29
open Nat (reduceAdd reduceMul reduceEqDiff reduceLeDiff)
open List (length_map)
set_option linter.all false
set_option linter.unusedSimpArgs false
set_option linter.unusedVariables false
namespace Go.Proofs.Ythjbfdfhblloiaa
open Go.Av
attribute [local irreducible] thenA blockA awp awpOps awpD awp1
set_option maxHeartbeats 8000000
set_option maxRecDepth 20000
theorem c89 (t:Tw) (s:List Int) (step:Int) (hT:TwOk t) (hsl:s.length=t.sts.length) (hs':0≤step∧step≤96):Pure Try.prog 89 [t.av,.lst 1 (s.map iv),.int .i64 step] (fun v=>v=.lst 2 (rlds t (elt s) step)):=by
  have hrn:=hT.rn
  have hgn:=hT.gn
  have ht0:t.av=.agg t.cells:=rfl
  refine Pure.give Try.call89 fun h hall=>?_
  refine ACalls.of tab mixed Try.call89 Try.func89 rfl (fi:=⟨82,[9],[3],none,[(11,[0,0,0,0,12,28,60,0,128,384,1020,2047,4095,8191],[(0,false),(1,false),(2,false),(3,false),(4,false),(5,false),(6,false),(7,false),(8,false),(9,true),(10,false),(11,false),(12,false),(13,false)]),(13,[0,0,0,0,12,28,60,0,128,384,1020,2047,4095,8191],[(0,false),(1,false),(2,false),(3,false),(4,false),(5,false),(6,false),(7,false),(8,false),(9,true),(10,false),(11,false),(12,false),(13,false)])]⟩) rfl rfl (Nat.le_of_ble_eq_true rfl) (by decide) ?_
  unfold startA
  rw [ht0]
  unfold Tw.cells
  repeat' (first|refine st_seq_reg rfl (by first|(simp only[go_sem,length_map,sl_rep,sl_len,Nat.zero_add];rfl)|rfl) (by first|(simp only[go_sem,length_map,sl_rep,sl_len,Nat.zero_add];rfl)|rfl) ?_|refine st_op ?_|refine st_det rfl (by simp (disch:=omega) only[go_sem,wr_i64,if_yes,if_no,↓reduceIte,reduceAdd,reduceMul,reduceEqDiff,Nat.reduceBEq,reduceLeDiff,length_map,sl_rep,sl_len,Nat.zero_add];rfl) ?_|refine st_heap rfl (by simp (disch:=omega) only[go_sem,wr_i64,if_yes,if_no,↓reduceIte,reduceAdd,reduceMul,reduceEqDiff,Nat.reduceBEq,reduceLeDiff,length_map,sl_rep,sl_len,Nat.zero_add];rfl) ?_|refine st_nil ?_|refine st_seq ?_|refine st_block ?_)
  all_goals try (exfalso;omega)
  have nbo:∀ b':Bid,b'.1 < h.clk→¬ b'=(h.clk+1,16):=fun b' hb'=>ne_fst hb' (by show h.clk≤h.clk+1;omega)
  refine st_loopH (α:=Nat × AH) tab mixed [] [] (by repeat (first|exact trivial|refine ⟨rfl,?_⟩)) [] [] (by repeat (first|exact trivial|refine ⟨rfl,?_⟩)) (fun a=>[(8,.int .i64 (a.1:Nat))]) [(1,_),(2,_),(3,_),(7,_)] (fun _=>[]) [] (fun a=>a.2) (fun a=>a.1≤t.gs.length∧a.2.at_ (h.clk+1,16)=some ⟨2,sl t.rooms.length (fun q=>sumF (rloF t (elt s) (q:Nat) step) a.1) (fun q=>sumF (hiF t (elt s) (q:Nat) step) a.1)⟩∧h.clk+1 < a.2.clk∧(∀ b':Bid,b'.1 < h.clk→a.2.at_ b'=h.at_ b')∧a.2.lp=h.lp) (fun a=>t.gs.length - a.1) (by decide) (0,_) (by refine ⟨Nat.zero_le _,by simp only[go_sem,↓reduceIte];rfl,by simp only[go_sem];omega,fun b' hb'=>by simp only[go_sem,if_neg (nbo b' hb')],rfl⟩) (by (try simp only[go_sem]);repeat' (first|exact trivial|refine And.intro ?_ ?_|rfl|(simp (disch:=omega) only[go_sem,if_yes,if_no,↓reduceIte,reduceAdd,reduceMul,reduceEqDiff,Nat.reduceBEq,reduceLeDiff];rfl)|(simp (disch:=omega) only[go_sem,if_yes,if_no,↓reduceIte,reduceAdd,reduceMul,reduceEqDiff,Nat.reduceBEq,reduceLeDiff]))) (by (try simp only[go_sem]);repeat' (first|exact trivial|refine And.intro ?_ ?_|rfl|(simp (disch:=omega) only[go_sem,if_yes,if_no,↓reduceIte,reduceAdd,reduceMul,reduceEqDiff,Nat.reduceBEq,reduceLeDiff];rfl)|(simp (disch:=omega) only[go_sem,if_yes,if_no,↓reduceIte,reduceAdd,reduceMul,reduceEqDiff,Nat.reduceBEq,reduceLeDiff]))) (HOld.refl _) ?_
  rintro ⟨i,G⟩ d ⟨i1,i2,i3,i4,i5⟩ hd
  dsimp only at i1 i2 i3 i4 i5 hd
  simp only[go_sem]
  by_cases hi:i < t.gs.length
  case neg =>
    obtain rfl:i=t.gs.length:=by omega
    repeat' (first|refine st_seq_reg rfl (by first|(simp only[go_sem,length_map];rfl)|rfl) (by first|(simp only[go_sem,length_map];rfl)|rfl) ?_|refine st_op ?_|refine st_det rfl (by simp (disch:=omega) only[go_sem,wr_i64,if_yes,if_no,↓reduceIte,reduceAdd,reduceMul,reduceEqDiff,Nat.reduceBEq,reduceLeDiff,length_map];rfl) ?_|refine st_loc rfl (by simp (disch:=omega) only[go_sem,wr_i64,if_yes,if_no,↓reduceIte,reduceAdd,reduceMul,reduceEqDiff,Nat.reduceBEq,reduceLeDiff,length_map];rfl) ?_|refine st_store (by simp (disch:=omega) only[go_sem,wr_i64,if_yes,if_no,↓reduceIte,reduceAdd,reduceMul,reduceEqDiff,Nat.reduceBEq,reduceLeDiff,length_map];rfl) ?_|(refine st_condS rfl ?_ ?_ <;> intro hg <;> (try simp only[decide_eq_true_eq,decide_eq_false_iff_not,Bool.not_eq_true',Bool.not_eq_false'] at hg))|refine st_nil ?_|refine st_tN ?_|refine st_seq ?_|refine st_block ?_|refine st_skip ?_|refine st_exit ?_|refine st_ret ?_|refine st_tE ?_|refine st_bH ?_)
    all_goals try (exfalso;omega)
    simp (disch:=omega) only[AEnd,Try.results89,aresK,fin,go_sem,↓reduceIte,reduceEqDiff,reduceAdd,reduceLeDiff,if_yes,if_no,implies_true,true_and,and_true,List.reverse_cons,List.reverse_nil]
    refine ⟨i4,i5,.inr ⟨(h.clk+1,16),_,by show h.clk≤h.clk+1;omega,i2,?_⟩⟩
    simp only[frz]
    rw [if_pos ⟨trivial,by rw [sl_len];omega⟩,List.drop_zero,List.take_of_length_le (by rw [sl_len];exact Nat.le_refl _)]
    rfl
  have hGp:=hT.g i hi
  have hsz:=hGp.size
  have k88:=c88 t s (gp t.gs i) step hT hGp hsl hs'
  have hmB:∀ q:Nat,q < t.rooms.length→mayB t (elt s) (gp t.gs i) step (plN (gp t.gs i)) q=someB t (elt s) (gp t.gs i) (q:Nat) step:=fun q hq=>by unfold mayB;rw [if_neg (by omega)];rfl
  have hlF:∀ q:Nat,rloF t (elt s) (q:Nat) step i=if someB t (elt s) (gp t.gs i) (q:Nat) step=true∧oneB t (elt s) (gp t.gs i) step=true then (gp t.gs i).lo else 0:=fun q=>rfl
  have hhF:∀ q:Nat,hiF t (elt s) (q:Nat) step i=if someB t (elt s) (gp t.gs i) (q:Nat) step=true then (gp t.gs i).hi else 0:=fun q=>rfl
  generalize hON:oneB t (elt s) (gp t.gs i) step=one at *
  repeat' (first|refine st_seq_reg rfl (by first|(simp only[go_sem,length_map];rfl)|rfl) (by first|(simp only[go_sem,length_map];rfl)|rfl) ?_|refine st_op ?_|refine st_det rfl (by simp (disch:=omega) only[go_sem,wr_i64,if_yes,if_no,↓reduceIte,reduceAdd,reduceMul,reduceEqDiff,Nat.reduceBEq,reduceLeDiff,length_map];rfl) ?_|refine st_loc rfl (by simp (disch:=omega) only[go_sem,wr_i64,if_yes,if_no,↓reduceIte,reduceAdd,reduceMul,reduceEqDiff,Nat.reduceBEq,reduceLeDiff,length_map];rfl) ?_|refine st_store (by simp (disch:=omega) only[go_sem,wr_i64,if_yes,if_no,↓reduceIte,reduceAdd,reduceMul,reduceEqDiff,Nat.reduceBEq,reduceLeDiff,length_map];rfl) ?_|(refine st_pureE (by first|(simp (disch:=omega) only[go_sem,length_map];rfl)|rfl) rfl (k88) (by first|(simp only[go_sem,length_map];rfl)|rfl) (by intro n;first|(simp (disch:=omega) only[go_sem];rfl)|rfl) ?_;intro n hn)|(refine st_condS rfl ?_ ?_ <;> intro hg <;> (try simp only[decide_eq_true_eq,decide_eq_false_iff_not,Bool.not_eq_true',Bool.not_eq_false'] at hg))|refine st_nil ?_|refine st_tN ?_|refine st_seq ?_|refine st_block ?_|refine st_skip ?_|refine st_exit ?_|refine st_ret ?_|refine st_tE ?_|refine st_bH ?_)
  all_goals try (exfalso;omega)
  refine st_loopH (α:=Nat × AH) tab mixed [] [] (by repeat (first|exact trivial|refine ⟨rfl,?_⟩)) [9] [_] (by repeat (first|exact trivial|refine ⟨rfl,?_⟩)) (fun a=>[(12,.int .i64 (a.1:Nat))]) [(1,_),(2,_),(3,_),(7,_),(8,_),(9,_),(10,_),(11,_)] (fun _=>[]) [_] (fun a=>a.2) (fun a=>a.1≤t.rooms.length∧a.2.at_ (h.clk+1,16)=some ⟨2,sl t.rooms.length (pS (fun q=>rloF t (elt s) (q:Nat) step) i a.1) (pS (fun q=>hiF t (elt s) (q:Nat) step) i a.1)⟩∧h.clk+1 < a.2.clk∧(∀ b':Bid,b'.1 < h.clk→a.2.at_ b'=h.at_ b')∧a.2.lp=h.lp) (fun a=>t.rooms.length - a.1) (by decide) (0,_) (by refine ⟨Nat.zero_le _,by simp only[go_sem];rw [i2];exact congrArg (fun l=>some (⟨2,l⟩:Blk)) (sl_congr fun q _=>⟨by rw [pS_zero],by rw [pS_zero]⟩),by simp only[go_sem];omega,fun b' hb'=>i4 b' hb',i5⟩) (by (try simp only[go_sem]);repeat' (first|exact trivial|refine And.intro ?_ ?_|rfl|(simp (disch:=omega) only[go_sem,if_yes,if_no,↓reduceIte,reduceAdd,reduceMul,reduceEqDiff,Nat.reduceBEq,reduceLeDiff];rfl)|(simp (disch:=omega) only[go_sem,if_yes,if_no,↓reduceIte,reduceAdd,reduceMul,reduceEqDiff,Nat.reduceBEq,reduceLeDiff]))) (by (try simp only[go_sem]);repeat' (first|exact trivial|refine And.intro ?_ ?_|rfl|(simp (disch:=omega) only[go_sem,if_yes,if_no,↓reduceIte,reduceAdd,reduceMul,reduceEqDiff,Nat.reduceBEq,reduceLeDiff];rfl)|(simp (disch:=omega) only[go_sem,if_yes,if_no,↓reduceIte,reduceAdd,reduceMul,reduceEqDiff,Nat.reduceBEq,reduceLeDiff]))) (HOld.refl _) ?_
  clear i2 i3 i4 i5 hd
  rintro ⟨q,G⟩ d ⟨j1,i2,i3,i4,i5⟩ hd
  dsimp only at j1 i2 i3 i4 i5 hd
  simp only[go_sem]
  by_cases hq:q < t.rooms.length
  case neg =>
    obtain rfl:q=t.rooms.length:=by omega
    repeat' (first|refine st_seq_reg rfl (by first|(simp only[go_sem,length_map];rfl)|rfl) (by first|(simp only[go_sem,length_map];rfl)|rfl) ?_|refine st_reg rfl (by first|(simp only[go_sem,length_map];rfl)|rfl) (by first|(simp only[go_sem,length_map];rfl)|rfl) ?_|refine st_op ?_|refine st_det rfl (by simp (disch:=omega) only[go_sem,wr_i64,if_yes,if_no,↓reduceIte,reduceAdd,reduceMul,reduceEqDiff,Nat.reduceBEq,reduceLeDiff,length_map];rfl) ?_|(refine st_condS rfl ?_ ?_ <;> intro hg <;> (try simp only[decide_eq_true_eq,decide_eq_false_iff_not,Bool.not_eq_true',Bool.not_eq_false'] at hg))|refine st_nil ?_|refine st_tN ?_|refine st_seq ?_|refine st_block ?_|refine st_skip ?_|refine st_exit ?_|refine st_tE ?_|refine st_bN ?_|refine st_bH ?_)
    all_goals try (exfalso;omega)
    refine ⟨(i+1,_),(by refine ⟨by show i+1≤_;omega,by simp only[go_sem];rw [i2];exact congrArg (fun l=>some (⟨2,l⟩:Blk)) (sl_congr fun q hq=>⟨pS_end _ hq,pS_end _ hq⟩),by simp only[go_sem];omega,fun b' hb'=>i4 b' hb',i5⟩),by show t.gs.length - (i+1) < t.gs.length - i;omega,(by repeat' (first|exact trivial|refine And.intro ?_ ?_|rfl|(simp (disch:=omega) only[go_sem,if_yes,if_no,↓reduceIte,reduceAdd,reduceMul,reduceEqDiff,Nat.reduceBEq,reduceLeDiff];rfl)|(simp (disch:=omega) only[go_sem,if_yes,if_no,↓reduceIte,reduceAdd,reduceMul,reduceEqDiff,Nat.reduceBEq,reduceLeDiff]))),(by repeat' (first|exact trivial|refine And.intro ?_ ?_|rfl|(simp (disch:=omega) only[go_sem,if_yes,if_no,↓reduceIte,reduceAdd,reduceMul,reduceEqDiff,Nat.reduceBEq,reduceLeDiff];rfl)|(simp (disch:=omega) only[go_sem,if_yes,if_no,↓reduceIte,reduceAdd,reduceMul,reduceEqDiff,Nat.reduceBEq,reduceLeDiff]))),rfl,HOld.refl _⟩
  have hgl:=bl_get (R:=t.rooms.length+1) (f:=mayB t (elt s) (gp t.gs i) step (plN (gp t.gs i))) (q:=q) (by omega)
  rw [hmB q hq] at hgl
  have hLq:=hlF q
  have hHq:=hhF q
  have hgs:=sl_get (F:=pS (fun q=>rloF t (elt s) (q:Nat) step) i q) (G:=pS (fun q=>hiF t (elt s) (q:Nat) step) i q) hq
  have b1:=sumF_bd0 (F:=rloF t (elt s) (q:Nat) step) (n:=t.gs.length) (B:=1000000) (rloF_bd hT (elt s) (q:Nat) step) i (by omega)
  have b2:=sumF_bd0 (F:=hiF t (elt s) (q:Nat) step) (n:=t.gs.length) (B:=1000000) (hiF_bd hT (elt s) (q:Nat) step) i (by omega)
  have e1:pS (fun q=>rloF t (elt s) (q:Nat) step) i q q=sumF (rloF t (elt s) (q:Nat) step) i:=if_neg (Nat.lt_irrefl _)
  have e2:pS (fun q=>hiF t (elt s) (q:Nat) step) i q q=sumF (hiF t (elt s) (q:Nat) step) i:=if_neg (Nat.lt_irrefl _)
  have hnx:∀ a c:Int,a=rloF t (elt s) (q:Nat) step i→c=hiF t (elt s) (q:Nat) step i→(sl t.rooms.length (pS (fun q=>rloF t (elt s) (q:Nat) step) i q) (pS (fun q=>hiF t (elt s) (q:Nat) step) i q)).set q [.int .i64 (sumF (rloF t (elt s) (q:Nat) step) i+a),.int .i64 (sumF (hiF t (elt s) (q:Nat) step) i+c)]=sl t.rooms.length (pS (fun q=>rloF t (elt s) (q:Nat) step) i (q+1)) (pS (fun q=>hiF t (elt s) (q:Nat) step) i (q+1)):=fun a c ha hc=>by
    rw [sl_set hq]
    refine sl_congr fun p hp=>⟨?_,?_⟩
    · rw [pS_next,e1,ha]
    · rw [pS_next,e2,hc]
  have hrs:∀ r:List AV,((sl t.rooms.length (pS (fun q=>rloF t (elt s) (q:Nat) step) i q) (pS (fun q=>hiF t (elt s) (q:Nat) step) i q)).set q r).getD q []=r:=fun r=>by
    rw [List.getD_eq_getElem?_getD,List.getElem?_set_self (by rw [sl_len];exact hq)];rfl
  have hsm:rloF t (elt s) (q:Nat) step i=0→hiF t (elt s) (q:Nat) step i=0→sl t.rooms.length (pS (fun q=>rloF t (elt s) (q:Nat) step) i (q+1)) (pS (fun q=>hiF t (elt s) (q:Nat) step) i (q+1))=sl t.rooms.length (pS (fun q=>rloF t (elt s) (q:Nat) step) i q) (pS (fun q=>hiF t (elt s) (q:Nat) step) i q):=fun h1 h2=>sl_congr fun p _=>by
    rw [pS_next,pS_next,h1,h2]
    by_cases e:p=q
    · rw [if_pos e,if_pos e,e];exact ⟨Int.add_zero _,Int.add_zero _⟩
    · rw [if_neg e,if_neg e];exact ⟨rfl,rfl⟩
  rw [e1,e2] at hgs
  have hSl:=sl_len t.rooms.length (pS (fun q=>rloF t (elt s) (q:Nat) step) i q) (pS (fun q=>hiF t (elt s) (q:Nat) step) i q)
  generalize sl t.rooms.length (pS (fun q=>rloF t (elt s) (q:Nat) step) i q) (pS (fun q=>hiF t (elt s) (q:Nat) step) i q)=SL at *
  generalize sumF (rloF t (elt s) (q:Nat) step) i=sa at *
  generalize sumF (hiF t (elt s) (q:Nat) step) i=sb at *
  cases hsb:someB t (elt s) (gp t.gs i) (q:Nat) step with
  | false =>
    rw [hsb] at hgl hLq hHq
    rw [if_neg (fun e=>absurd e.1 (by decide))] at hLq
    rw [if_neg (by decide)] at hHq
    have hs1:=hsm hLq hHq
    clear hnx hsm
    repeat' (first|refine st_seq_reg rfl (by first|(simp only[go_sem,length_map,i2,bl_len,hgl,hSl,Nat.zero_add];rfl)|rfl) (by first|(simp only[go_sem,length_map,i2,bl_len,hgl,hSl,Nat.zero_add];rfl)|rfl) ?_|refine st_reg rfl (by first|(simp only[go_sem,length_map,i2,bl_len,hgl,hSl,Nat.zero_add];rfl)|rfl) (by first|(simp only[go_sem,length_map,i2,bl_len,hgl,hSl,Nat.zero_add];rfl)|rfl) ?_|refine st_op ?_|refine st_det rfl (by simp (disch:=omega) only[go_sem,wr_i64,if_yes,if_no,↓reduceIte,reduceAdd,reduceMul,reduceEqDiff,Nat.reduceBEq,reduceLeDiff,length_map,i2,bl_len,hgl,hSl,Nat.zero_add];rfl) ?_|refine st_gF rfl rfl rfl ?_|refine st_condF rfl ?_|(refine st_condS rfl ?_ ?_ <;> intro hg <;> (try simp only[decide_eq_true_eq,decide_eq_false_iff_not,Bool.not_eq_true',Bool.not_eq_false'] at hg))|refine st_nil ?_|refine st_tN ?_|refine st_seq ?_|refine st_block ?_|refine st_skip ?_|refine st_exit ?_|refine st_tE ?_|refine st_bN ?_|refine st_bH ?_)
    all_goals try (exfalso;omega)
    refine ⟨(q+1,_),(by refine ⟨by show q+1≤_;omega,by simp only[go_sem];rw [i2,hs1],by simp only[go_sem];omega,fun b' hb'=>i4 b' hb',i5⟩),by show t.rooms.length - (q+1) < t.rooms.length - q;omega,(by repeat' (first|exact trivial|refine And.intro ?_ ?_|rfl|(simp (disch:=omega) only[go_sem,if_yes,if_no,↓reduceIte,reduceAdd,reduceMul,reduceEqDiff,Nat.reduceBEq,reduceLeDiff];rfl)|(simp (disch:=omega) only[go_sem,if_yes,if_no,↓reduceIte,reduceAdd,reduceMul,reduceEqDiff,Nat.reduceBEq,reduceLeDiff]))),(by repeat' (first|exact trivial|refine And.intro ?_ ?_|rfl|(simp (disch:=omega) only[go_sem,if_yes,if_no,↓reduceIte,reduceAdd,reduceMul,reduceEqDiff,Nat.reduceBEq,reduceLeDiff];rfl)|(simp (disch:=omega) only[go_sem,if_yes,if_no,↓reduceIte,reduceAdd,reduceMul,reduceEqDiff,Nat.reduceBEq,reduceLeDiff]))),rfl,HOld.refl _⟩
  | true =>
    rw [hsb] at hgl hLq hHq
    rw [if_pos rfl] at hHq
    cases one with
    | false =>
      rw [if_neg (fun e=>absurd e.2 (by decide))] at hLq
      have hset:=hnx 0 (gp t.gs i).hi hLq.symm hHq.symm
      rw [Int.add_zero] at hset
      clear hnx hsm
      repeat' (first|refine st_seq_reg rfl (by first|(simp only[go_sem,length_map,i2,bl_len,hgl,hgs,hrs,hset,hSl,Nat.zero_add,List.length_set];rfl)|rfl) (by first|(simp only[go_sem,length_map,i2,bl_len,hgl,hgs,hrs,hset,hSl,Nat.zero_add,List.length_set];rfl)|rfl) ?_|refine st_reg rfl (by first|(simp only[go_sem,length_map,i2,bl_len,hgl,hgs,hrs,hset,hSl,Nat.zero_add,List.length_set];rfl)|rfl) (by first|(simp only[go_sem,length_map,i2,bl_len,hgl,hgs,hrs,hset,hSl,Nat.zero_add,List.length_set];rfl)|rfl) ?_|refine st_draw rfl (by first|(simp only[go_sem,length_map,i2,bl_len,hgl,hgs,hrs,hset,hSl,Nat.zero_add,List.length_set];rfl)|rfl) (by first|(simp only[go_sem,length_map,i2,bl_len,hgl,hgs,hrs,hset,hSl,Nat.zero_add,List.length_set];rfl)|rfl) ?_|refine st_op ?_|refine st_det rfl (by simp (disch:=omega) only[go_sem,wr_i64,if_yes,if_no,↓reduceIte,reduceAdd,reduceMul,reduceEqDiff,Nat.reduceBEq,reduceLeDiff,length_map,i2,bl_len,hgl,hgs,hrs,hset,hSl,Nat.zero_add,List.length_set];rfl) ?_|refine st_dop rfl ?_|refine st_store (by simp (disch:=omega) only[go_sem,wr_i64,if_yes,if_no,↓reduceIte,reduceAdd,reduceMul,reduceEqDiff,Nat.reduceBEq,reduceLeDiff,length_map,i2,bl_len,hgl,hgs,hrs,hset,hSl,Nat.zero_add,List.length_set];rfl) ?_|refine st_gT rfl rfl rfl ?_|refine st_condT rfl ?_|refine st_condF rfl ?_|(refine st_condS rfl ?_ ?_ <;> intro hg <;> (try simp only[decide_eq_true_eq,decide_eq_false_iff_not,Bool.not_eq_true',Bool.not_eq_false'] at hg))|refine st_nil ?_|refine st_dnil ?_|refine st_tN ?_|refine st_seq ?_|refine st_block ?_|refine st_skip ?_|refine st_exit ?_|refine st_tE ?_|refine st_bN ?_|refine st_bH ?_)
      all_goals try (exfalso;omega)
      refine ⟨(q+1,_),(by refine ⟨by show q+1≤_;omega,by simp only[go_sem,↓reduceIte],by simp only[go_sem];omega,fun b' hb'=>by simp only[go_sem,if_neg (nbo b' hb')];exact i4 b' hb',i5⟩),by show t.rooms.length - (q+1) < t.rooms.length - q;omega,(by repeat' (first|exact trivial|refine And.intro ?_ ?_|rfl|(simp (disch:=omega) only[go_sem,if_yes,if_no,↓reduceIte,reduceAdd,reduceMul,reduceEqDiff,Nat.reduceBEq,reduceLeDiff];rfl)|(simp (disch:=omega) only[go_sem,if_yes,if_no,↓reduceIte,reduceAdd,reduceMul,reduceEqDiff,Nat.reduceBEq,reduceLeDiff]))),(by repeat' (first|exact trivial|refine And.intro ?_ ?_|rfl|(simp (disch:=omega) only[go_sem,if_yes,if_no,↓reduceIte,reduceAdd,reduceMul,reduceEqDiff,Nat.reduceBEq,reduceLeDiff];rfl)|(simp (disch:=omega) only[go_sem,if_yes,if_no,↓reduceIte,reduceAdd,reduceMul,reduceEqDiff,Nat.reduceBEq,reduceLeDiff]))),rfl,HOld.refl _⟩
    | true =>
      rw [if_pos ⟨rfl,rfl⟩] at hLq
      have hset:=hnx (gp t.gs i).lo (gp t.gs i).hi hLq.symm hHq.symm
      clear hnx hsm
      repeat' (first|refine st_seq_reg rfl (by first|(simp only[go_sem,length_map,i2,bl_len,hgl,hgs,hrs,hset,hSl,Nat.zero_add,List.length_set,List.set_set];rfl)|rfl) (by first|(simp only[go_sem,length_map,i2,bl_len,hgl,hgs,hrs,hset,hSl,Nat.zero_add,List.length_set,List.set_set];rfl)|rfl) ?_|refine st_reg rfl (by first|(simp only[go_sem,length_map,i2,bl_len,hgl,hgs,hrs,hset,hSl,Nat.zero_add,List.length_set,List.set_set];rfl)|rfl) (by first|(simp only[go_sem,length_map,i2,bl_len,hgl,hgs,hrs,hset,hSl,Nat.zero_add,List.length_set,List.set_set];rfl)|rfl) ?_|refine st_draw rfl (by first|(simp only[go_sem,length_map,i2,bl_len,hgl,hgs,hrs,hset,hSl,Nat.zero_add,List.length_set,List.set_set];rfl)|rfl) (by first|(simp only[go_sem,length_map,i2,bl_len,hgl,hgs,hrs,hset,hSl,Nat.zero_add,List.length_set,List.set_set];rfl)|rfl) ?_|refine st_op ?_|refine st_det rfl (by simp (disch:=omega) only[go_sem,wr_i64,if_yes,if_no,↓reduceIte,reduceAdd,reduceMul,reduceEqDiff,Nat.reduceBEq,reduceLeDiff,length_map,i2,bl_len,hgl,hgs,hrs,hset,hSl,Nat.zero_add,List.length_set,List.set_set];rfl) ?_|refine st_dop rfl ?_|refine st_store (by simp (disch:=omega) only[go_sem,wr_i64,if_yes,if_no,↓reduceIte,reduceAdd,reduceMul,reduceEqDiff,Nat.reduceBEq,reduceLeDiff,length_map,i2,bl_len,hgl,hgs,hrs,hset,hSl,Nat.zero_add,List.length_set,List.set_set];rfl) ?_|refine st_gT rfl rfl rfl ?_|refine st_condT rfl ?_|(refine st_condS rfl ?_ ?_ <;> intro hg <;> (try simp only[decide_eq_true_eq,decide_eq_false_iff_not,Bool.not_eq_true',Bool.not_eq_false'] at hg))|refine st_nil ?_|refine st_dnil ?_|refine st_tN ?_|refine st_seq ?_|refine st_block ?_|refine st_skip ?_|refine st_exit ?_|refine st_tE ?_|refine st_bN ?_|refine st_bH ?_)
      all_goals try (exfalso;omega)
      refine ⟨(q+1,_),(by refine ⟨by show q+1≤_;omega,by simp only[go_sem,↓reduceIte],by simp only[go_sem];omega,fun b' hb'=>by simp only[go_sem,if_neg (nbo b' hb')];exact i4 b' hb',i5⟩),by show t.rooms.length - (q+1) < t.rooms.length - q;omega,(by repeat' (first|exact trivial|refine And.intro ?_ ?_|rfl|(simp (disch:=omega) only[go_sem,if_yes,if_no,↓reduceIte,reduceAdd,reduceMul,reduceEqDiff,Nat.reduceBEq,reduceLeDiff];rfl)|(simp (disch:=omega) only[go_sem,if_yes,if_no,↓reduceIte,reduceAdd,reduceMul,reduceEqDiff,Nat.reduceBEq,reduceLeDiff]))),(by repeat' (first|exact trivial|refine And.intro ?_ ?_|rfl|(simp (disch:=omega) only[go_sem,if_yes,if_no,↓reduceIte,reduceAdd,reduceMul,reduceEqDiff,Nat.reduceBEq,reduceLeDiff];rfl)|(simp (disch:=omega) only[go_sem,if_yes,if_no,↓reduceIte,reduceAdd,reduceMul,reduceEqDiff,Nat.reduceBEq,reduceLeDiff]))),rfl,HOld.refl _⟩
theorem ints_stR (f:Nat→Int):ints (stR f)=some ((List.range 12).map fun i=>(IntKind.i64,f i)):=rfl
theorem stR_neq (f:Nat→Int) (i:Nat) (v:Int) (hi:i < 12) (b:Bool) (h:b=!decide (f i=v)):aeql 12 (fun b=>!b) (ints (stR f)) (ints (stR (upd f i v)))=some (.bool b):=by
  rw [ints_stR,ints_stR,h]
  unfold aeql
  dsimp only
  rw [if_pos ⟨by simp,by simp⟩]
  have:((List.range 12).map (fun i=>(IntKind.i64,f i))=(List.range 12).map (fun j=>(IntKind.i64,upd f i v j))) ↔ f i=v:=by
    constructor
    · intro e
      have:=congrArg (fun l=>l[i]?) e
      simp only[List.getElem?_map,List.getElem?_range hi,Option.map_some,Option.some.injEq,Prod.mk.injEq,true_and,upd_same] at this
      exact this
    · intro e
      rw [show upd f i v=f from upd_self e]
  simp only[this]
def undV (t:Tw) (s:List Int):AV:=match und t s with
  | some i=>.tup [.int .i64 ((i:Nat):Int),.bool true]
  | none=>.tup [.int .i64 0,.bool false]
theorem und_some {t:Tw} {s:List Int} {i:Nat} (hi:i < t.sts.length) (h0:elt s i=0) (h:∀ j,j < i→¬ elt s j=0):und t s=some i:=by
  unfold und
  rw [List.find?_eq_some_iff_getElem]
  refine ⟨decide_eq_true h0,i,by rw [List.length_range];exact hi,by rw [List.getElem_range],fun j hj=>?_⟩
  rw [List.getElem_range]
  simp only[Bool.not_eq_true',decide_eq_false_iff_not]
  exact h j hj
theorem und_none {t:Tw} {s:List Int} (h:∀ j,j < t.sts.length→¬ elt s j=0):und t s=none:=by
  unfold und
  rw [List.find?_eq_none]
  intro j hj
  simp only[decide_eq_true_eq]
  exact h j (List.mem_range.1 hj)
theorem c96 (t:Tw) (s:List Int) (hsn:t.sts.length≤12) (hv:∀ i,i < t.sts.length→elt s i=0 ∨ elt s i=1 ∨ elt s i=2):Pure Try.prog 96 [.agg (stR (elt s)),t.av] (fun v=>v=undV t s):=by
  intro h
  have ht0:t.av=.agg t.cells:=rfl
  refine ACalls.forget (ACalls.of tab mixed Try.call96 Try.func96 rfl (fi:=⟨27,[],[2,3],none,[(4,[0,0,0,6,15,31,63,63,63,447,1023,2047],[(0,true),(1,true),(2,false),(3,false),(4,false),(5,false),(6,true),(7,true),(8,false),(9,false),(10,false),(11,false)])]⟩) rfl rfl (Nat.le_of_ble_eq_true rfl) (by decide) ?_)
  unfold startA
  rw [ht0]
  unfold Tw.cells
  repeat' (first|refine st_seq_reg rfl (by first|(simp only[go_sem,length_map];rfl)|rfl) (by first|(simp only[go_sem,length_map];rfl)|rfl) ?_|refine st_reg rfl (by first|(simp only[go_sem,length_map];rfl)|rfl) (by first|(simp only[go_sem,length_map];rfl)|rfl) ?_|refine st_seq_draw rfl (by first|(simp only[go_sem,length_map];rfl)|rfl) (by first|(simp only[go_sem,length_map];rfl)|rfl) ?_|refine st_draw rfl (by first|(simp only[go_sem,length_map];rfl)|rfl) (by first|(simp only[go_sem,length_map];rfl)|rfl) ?_|refine st_op ?_|refine st_det rfl (by simp (disch:=omega) only[go_sem,wr_i64,if_yes,if_no,↓reduceIte,reduceAdd,reduceMul,reduceEqDiff,Nat.reduceBEq,reduceLeDiff,length_map];rfl) ?_|refine st_dop rfl ?_|refine st_loc rfl (by simp (disch:=omega) only[go_sem,wr_i64,if_yes,if_no,↓reduceIte,reduceAdd,reduceMul,reduceEqDiff,Nat.reduceBEq,reduceLeDiff,length_map];rfl) ?_|refine st_heap rfl (by simp (disch:=omega) only[go_sem,wr_i64,if_yes,if_no,↓reduceIte,reduceAdd,reduceMul,reduceEqDiff,Nat.reduceBEq,reduceLeDiff,length_map];rfl) ?_|refine st_gT rfl rfl rfl ?_|refine st_gF rfl rfl rfl ?_|refine st_dgT rfl rfl rfl rfl ?_|refine st_dgF rfl rfl rfl ?_|(refine st_gS rfl rfl ?_ ?_ <;> intro hg <;> (try simp only[decide_eq_true_eq,decide_eq_false_iff_not,Bool.not_eq_true',Bool.not_eq_false'] at hg))|(refine st_dgS rfl rfl ?_ ?_ <;> intro hg <;> (try simp only[decide_eq_true_eq,decide_eq_false_iff_not,Bool.not_eq_true',Bool.not_eq_false'] at hg))|refine st_condT rfl ?_|refine st_condF rfl ?_|(refine st_condS rfl ?_ ?_ <;> intro hg <;> (try simp only[decide_eq_true_eq,decide_eq_false_iff_not,Bool.not_eq_true',Bool.not_eq_false'] at hg))|refine st_nil ?_|refine st_dnil ?_|refine st_tN ?_|refine st_seq ?_|refine st_block ?_|refine st_skip ?_|refine st_exit ?_|refine st_ret ?_|refine st_tE ?_|refine st_tR ?_|refine st_bN ?_|refine st_bR ?_|refine st_bH ?_|refine st_bM rfl ?_)
  refine st_loopC (α:=Nat) tab mixed [] [] (by repeat (first|exact trivial|refine ⟨rfl,?_⟩)) [] [] (by repeat (first|exact trivial|refine ⟨rfl,?_⟩)) (fun i=>[(10,.int .i64 (i:Nat))]) [(2,_),(3,_),(9,_)] (fun _=>[]) [] (fun i=>i≤t.sts.length∧∀ j,j < i→¬ elt s j=0) (fun i=>t.sts.length - i) (by decide) 0 ⟨Nat.zero_le _,fun j hj=>absurd hj (Nat.not_lt_zero _)⟩ (by (try simp only[go_sem]);repeat' (first|exact trivial|refine And.intro ?_ ?_|rfl|(simp (disch:=omega) only[go_sem,if_yes,if_no,↓reduceIte,reduceAdd,reduceMul,reduceEqDiff,Nat.reduceBEq,reduceLeDiff];rfl)|(simp (disch:=omega) only[go_sem,if_yes,if_no,↓reduceIte,reduceAdd,reduceMul,reduceEqDiff,Nat.reduceBEq,reduceLeDiff]))) (by (try simp only[go_sem]);repeat' (first|exact trivial|refine And.intro ?_ ?_|rfl|(simp (disch:=omega) only[go_sem,if_yes,if_no,↓reduceIte,reduceAdd,reduceMul,reduceEqDiff,Nat.reduceBEq,reduceLeDiff];rfl)|(simp (disch:=omega) only[go_sem,if_yes,if_no,↓reduceIte,reduceAdd,reduceMul,reduceEqDiff,Nat.reduceBEq,reduceLeDiff]))) (by first|(simp only[go_sem];rfl)|rfl) (by intro n;simp only[go_sem];rfl) ?_
  rintro i c ⟨i1,i2⟩ hc
  simp only[go_sem]
  by_cases hi:i < t.sts.length
  case neg =>
    obtain rfl:i=t.sts.length:=by omega
    repeat' (first|refine st_seq_reg rfl (by first|(simp only[go_sem];rfl)|rfl) (by first|(simp only[go_sem];rfl)|rfl) ?_|refine st_reg rfl (by first|(simp only[go_sem];rfl)|rfl) (by first|(simp only[go_sem];rfl)|rfl) ?_|refine st_seq_draw rfl (by first|(simp only[go_sem];rfl)|rfl) (by first|(simp only[go_sem];rfl)|rfl) ?_|refine st_draw rfl (by first|(simp only[go_sem];rfl)|rfl) (by first|(simp only[go_sem];rfl)|rfl) ?_|refine st_op ?_|refine st_det rfl (by simp (disch:=omega) only[go_sem,wr_i64,if_yes,if_no,↓reduceIte,reduceAdd,reduceMul,reduceEqDiff,Nat.reduceBEq,reduceLeDiff];rfl) ?_|refine st_dop rfl ?_|refine st_loc rfl (by simp (disch:=omega) only[go_sem,wr_i64,if_yes,if_no,↓reduceIte,reduceAdd,reduceMul,reduceEqDiff,Nat.reduceBEq,reduceLeDiff];rfl) ?_|refine st_heap rfl (by simp (disch:=omega) only[go_sem,wr_i64,if_yes,if_no,↓reduceIte,reduceAdd,reduceMul,reduceEqDiff,Nat.reduceBEq,reduceLeDiff];rfl) ?_|refine st_gT rfl rfl rfl ?_|refine st_gF rfl rfl rfl ?_|refine st_dgT rfl rfl rfl rfl ?_|refine st_dgF rfl rfl rfl ?_|(refine st_gS rfl rfl ?_ ?_ <;> intro hg <;> (try simp only[decide_eq_true_eq,decide_eq_false_iff_not,Bool.not_eq_true',Bool.not_eq_false'] at hg))|(refine st_dgS rfl rfl ?_ ?_ <;> intro hg <;> (try simp only[decide_eq_true_eq,decide_eq_false_iff_not,Bool.not_eq_true',Bool.not_eq_false'] at hg))|refine st_condT rfl ?_|refine st_condF rfl ?_|(refine st_condS rfl ?_ ?_ <;> intro hg <;> (try simp only[decide_eq_true_eq,decide_eq_false_iff_not,Bool.not_eq_true',Bool.not_eq_false'] at hg))|refine st_nil ?_|refine st_dnil ?_|refine st_tN ?_|refine st_seq ?_|refine st_block ?_|refine st_skip ?_|refine st_exit ?_|refine st_ret ?_|refine st_tE ?_|refine st_tR ?_|refine st_bN ?_|refine st_bR ?_|refine st_bH ?_|refine st_bM rfl ?_)
    all_goals try (exfalso;omega)
    simp (disch:=omega) only[AEnd,Try.results96,aresK,fin,go_sem,↓reduceIte,reduceEqDiff,reduceAdd,reduceLeDiff,if_yes,if_no,implies_true,true_and,and_true,List.reverse_cons,List.reverse_nil]
    unfold undV;rw [und_none i2]
  have w1:=c72 (elt s) (i:Nat) 1 ⟨by omega,by omega⟩
  have w2:=c72 (elt s) (i:Nat) 2 ⟨by omega,by omega⟩
  simp only[toNat_cast] at w1 w2
  by_cases h0:elt s i=0
  · have n1:=stR_neq (elt s) i 1 (by omega) true (by rw [h0];rfl)
    have n2:=stR_neq (elt s) i 2 (by omega) true (by rw [h0];rfl)
    repeat' (first|refine st_seq_reg rfl (by first|(simp only[go_sem,n1,n2];rfl)|rfl) (by first|(simp only[go_sem,n1,n2];rfl)|rfl) ?_|refine st_reg rfl (by first|(simp only[go_sem,n1,n2];rfl)|rfl) (by first|(simp only[go_sem,n1,n2];rfl)|rfl) ?_|refine st_seq_draw rfl (by first|(simp only[go_sem,n1,n2];rfl)|rfl) (by first|(simp only[go_sem,n1,n2];rfl)|rfl) ?_|refine st_draw rfl (by first|(simp only[go_sem,n1,n2];rfl)|rfl) (by first|(simp only[go_sem,n1,n2];rfl)|rfl) ?_|refine st_op ?_|refine st_det rfl (by simp (disch:=omega) only[go_sem,wr_i64,if_yes,if_no,↓reduceIte,reduceAdd,reduceMul,reduceEqDiff,Nat.reduceBEq,reduceLeDiff,n1,n2];rfl) ?_|refine st_dop rfl ?_|refine st_loc rfl (by simp (disch:=omega) only[go_sem,wr_i64,if_yes,if_no,↓reduceIte,reduceAdd,reduceMul,reduceEqDiff,Nat.reduceBEq,reduceLeDiff,n1,n2];rfl) ?_|refine st_heap rfl (by simp (disch:=omega) only[go_sem,wr_i64,if_yes,if_no,↓reduceIte,reduceAdd,reduceMul,reduceEqDiff,Nat.reduceBEq,reduceLeDiff,n1,n2];rfl) ?_|(refine st_pureE (by first|(simp (disch:=omega) only[go_sem,n1,n2];rfl)|rfl) rfl (w1) (by first|(simp only[go_sem,n1,n2];rfl)|rfl) (by intro n;first|(simp (disch:=omega) only[go_sem];rfl)|rfl) ?_;intro n hn)|(refine st_pureE (by first|(simp (disch:=omega) only[go_sem,n1,n2];rfl)|rfl) rfl (w2) (by first|(simp only[go_sem,n1,n2];rfl)|rfl) (by intro n;first|(simp (disch:=omega) only[go_sem];rfl)|rfl) ?_;intro n hn)|refine st_gT rfl rfl rfl ?_|refine st_gF rfl rfl rfl ?_|refine st_dgT rfl rfl rfl rfl ?_|refine st_dgF rfl rfl rfl ?_|(refine st_gS rfl rfl ?_ ?_ <;> intro hg <;> (try simp only[decide_eq_true_eq,decide_eq_false_iff_not,Bool.not_eq_true',Bool.not_eq_false'] at hg))|(refine st_dgS rfl rfl ?_ ?_ <;> intro hg <;> (try simp only[decide_eq_true_eq,decide_eq_false_iff_not,Bool.not_eq_true',Bool.not_eq_false'] at hg))|refine st_condT rfl ?_|refine st_condF rfl ?_|(refine st_condS rfl ?_ ?_ <;> intro hg <;> (try simp only[decide_eq_true_eq,decide_eq_false_iff_not,Bool.not_eq_true',Bool.not_eq_false'] at hg))|refine st_nil ?_|refine st_dnil ?_|refine st_tN ?_|refine st_seq ?_|refine st_block ?_|refine st_skip ?_|refine st_exit ?_|refine st_ret ?_|refine st_tE ?_|refine st_tR ?_|refine st_bN ?_|refine st_bR ?_|refine st_bH ?_|refine st_bM rfl ?_)
    all_goals try (exfalso;omega)
    simp (disch:=omega) only[AEnd,Try.results96,aresK,fin,go_sem,↓reduceIte,reduceEqDiff,reduceAdd,reduceLeDiff,if_yes,if_no,implies_true,true_and,and_true,List.reverse_cons,List.reverse_nil]
    unfold undV;rw [und_some hi h0 i2]
  · have hnx:∀ j,j < i+1→¬ elt s j=0:=fun j hj=>by
      by_cases e:j=i
      · rw [e];exact h0
      · exact i2 j (by omega)
    by_cases h1:elt s i=1
    · have n1:=stR_neq (elt s) i 1 (by omega) false (by rw [h1];rfl)
      repeat' (first|refine st_seq_reg rfl (by first|(simp only[go_sem,n1];rfl)|rfl) (by first|(simp only[go_sem,n1];rfl)|rfl) ?_|refine st_reg rfl (by first|(simp only[go_sem,n1];rfl)|rfl) (by first|(simp only[go_sem,n1];rfl)|rfl) ?_|refine st_seq_draw rfl (by first|(simp only[go_sem,n1];rfl)|rfl) (by first|(simp only[go_sem,n1];rfl)|rfl) ?_|refine st_draw rfl (by first|(simp only[go_sem,n1];rfl)|rfl) (by first|(simp only[go_sem,n1];rfl)|rfl) ?_|refine st_op ?_|refine st_det rfl (by simp (disch:=omega) only[go_sem,wr_i64,if_yes,if_no,↓reduceIte,reduceAdd,reduceMul,reduceEqDiff,Nat.reduceBEq,reduceLeDiff,n1];rfl) ?_|refine st_dop rfl ?_|refine st_loc rfl (by simp (disch:=omega) only[go_sem,wr_i64,if_yes,if_no,↓reduceIte,reduceAdd,reduceMul,reduceEqDiff,Nat.reduceBEq,reduceLeDiff,n1];rfl) ?_|refine st_heap rfl (by simp (disch:=omega) only[go_sem,wr_i64,if_yes,if_no,↓reduceIte,reduceAdd,reduceMul,reduceEqDiff,Nat.reduceBEq,reduceLeDiff,n1];rfl) ?_|(refine st_pureE (by first|(simp (disch:=omega) only[go_sem,n1];rfl)|rfl) rfl (w1) (by first|(simp only[go_sem,n1];rfl)|rfl) (by intro n;first|(simp (disch:=omega) only[go_sem];rfl)|rfl) ?_;intro n hn)|(refine st_pureE (by first|(simp (disch:=omega) only[go_sem,n1];rfl)|rfl) rfl (w2) (by first|(simp only[go_sem,n1];rfl)|rfl) (by intro n;first|(simp (disch:=omega) only[go_sem];rfl)|rfl) ?_;intro n hn)|refine st_gT rfl rfl rfl ?_|refine st_gF rfl rfl rfl ?_|refine st_dgT rfl rfl rfl rfl ?_|refine st_dgF rfl rfl rfl ?_|(refine st_gS rfl rfl ?_ ?_ <;> intro hg <;> (try simp only[decide_eq_true_eq,decide_eq_false_iff_not,Bool.not_eq_true',Bool.not_eq_false'] at hg))|(refine st_dgS rfl rfl ?_ ?_ <;> intro hg <;> (try simp only[decide_eq_true_eq,decide_eq_false_iff_not,Bool.not_eq_true',Bool.not_eq_false'] at hg))|refine st_condT rfl ?_|refine st_condF rfl ?_|(refine st_condS rfl ?_ ?_ <;> intro hg <;> (try simp only[decide_eq_true_eq,decide_eq_false_iff_not,Bool.not_eq_true',Bool.not_eq_false'] at hg))|refine st_nil ?_|refine st_dnil ?_|refine st_tN ?_|refine st_seq ?_|refine st_block ?_|refine st_skip ?_|refine st_exit ?_|refine st_ret ?_|refine st_tE ?_|refine st_tR ?_|refine st_bN ?_|refine st_bR ?_|refine st_bH ?_|refine st_bM rfl ?_)
      all_goals try (exfalso;omega)
      refine ⟨i+1,⟨by show i+1≤_;omega,hnx⟩,by show t.sts.length - (i+1) < t.sts.length - i;omega,(by repeat' (first|exact trivial|refine And.intro ?_ ?_|rfl|(simp (disch:=omega) only[go_sem,if_yes,if_no,↓reduceIte,reduceAdd,reduceMul,reduceEqDiff,Nat.reduceBEq,reduceLeDiff];rfl)|(simp (disch:=omega) only[go_sem,if_yes,if_no,↓reduceIte,reduceAdd,reduceMul,reduceEqDiff,Nat.reduceBEq,reduceLeDiff]))),(by repeat' (first|exact trivial|refine And.intro ?_ ?_|rfl|(simp (disch:=omega) only[go_sem,if_yes,if_no,↓reduceIte,reduceAdd,reduceMul,reduceEqDiff,Nat.reduceBEq,reduceLeDiff];rfl)|(simp (disch:=omega) only[go_sem,if_yes,if_no,↓reduceIte,reduceAdd,reduceMul,reduceEqDiff,Nat.reduceBEq,reduceLeDiff]))),rfl,(by first|exact HOld.of _ (by omega)|exact HOld.put _ _ _ (by omega))⟩
    · have h2:elt s i=2:=by have:=hv i hi;omega
      have n1:=stR_neq (elt s) i 1 (by omega) true (by rw [h2];rfl)
      have n2:=stR_neq (elt s) i 2 (by omega) false (by rw [h2];rfl)
      repeat' (first|refine st_seq_reg rfl (by first|(simp only[go_sem,n1,n2];rfl)|rfl) (by first|(simp only[go_sem,n1,n2];rfl)|rfl) ?_|refine st_reg rfl (by first|(simp only[go_sem,n1,n2];rfl)|rfl) (by first|(simp only[go_sem,n1,n2];rfl)|rfl) ?_|refine st_seq_draw rfl (by first|(simp only[go_sem,n1,n2];rfl)|rfl) (by first|(simp only[go_sem,n1,n2];rfl)|rfl) ?_|refine st_draw rfl (by first|(simp only[go_sem,n1,n2];rfl)|rfl) (by first|(simp only[go_sem,n1,n2];rfl)|rfl) ?_|refine st_op ?_|refine st_det rfl (by simp (disch:=omega) only[go_sem,wr_i64,if_yes,if_no,↓reduceIte,reduceAdd,reduceMul,reduceEqDiff,Nat.reduceBEq,reduceLeDiff,n1,n2];rfl) ?_|refine st_dop rfl ?_|refine st_loc rfl (by simp (disch:=omega) only[go_sem,wr_i64,if_yes,if_no,↓reduceIte,reduceAdd,reduceMul,reduceEqDiff,Nat.reduceBEq,reduceLeDiff,n1,n2];rfl) ?_|refine st_heap rfl (by simp (disch:=omega) only[go_sem,wr_i64,if_yes,if_no,↓reduceIte,reduceAdd,reduceMul,reduceEqDiff,Nat.reduceBEq,reduceLeDiff,n1,n2];rfl) ?_|(refine st_pureE (by first|(simp (disch:=omega) only[go_sem,n1,n2];rfl)|rfl) rfl (w1) (by first|(simp only[go_sem,n1,n2];rfl)|rfl) (by intro n;first|(simp (disch:=omega) only[go_sem];rfl)|rfl) ?_;intro n hn)|(refine st_pureE (by first|(simp (disch:=omega) only[go_sem,n1,n2];rfl)|rfl) rfl (w2) (by first|(simp only[go_sem,n1,n2];rfl)|rfl) (by intro n;first|(simp (disch:=omega) only[go_sem];rfl)|rfl) ?_;intro n hn)|refine st_gT rfl rfl rfl ?_|refine st_gF rfl rfl rfl ?_|refine st_dgT rfl rfl rfl rfl ?_|refine st_dgF rfl rfl rfl ?_|(refine st_gS rfl rfl ?_ ?_ <;> intro hg <;> (try simp only[decide_eq_true_eq,decide_eq_false_iff_not,Bool.not_eq_true',Bool.not_eq_false'] at hg))|(refine st_dgS rfl rfl ?_ ?_ <;> intro hg <;> (try simp only[decide_eq_true_eq,decide_eq_false_iff_not,Bool.not_eq_true',Bool.not_eq_false'] at hg))|refine st_condT rfl ?_|refine st_condF rfl ?_|(refine st_condS rfl ?_ ?_ <;> intro hg <;> (try simp only[decide_eq_true_eq,decide_eq_false_iff_not,Bool.not_eq_true',Bool.not_eq_false'] at hg))|refine st_nil ?_|refine st_dnil ?_|refine st_tN ?_|refine st_seq ?_|refine st_block ?_|refine st_skip ?_|refine st_exit ?_|refine st_ret ?_|refine st_tE ?_|refine st_tR ?_|refine st_bN ?_|refine st_bR ?_|refine st_bH ?_|refine st_bM rfl ?_)
      all_goals try (exfalso;omega)
      refine ⟨i+1,⟨by show i+1≤_;omega,hnx⟩,by show t.sts.length - (i+1) < t.sts.length - i;omega,(by repeat' (first|exact trivial|refine And.intro ?_ ?_|rfl|(simp (disch:=omega) only[go_sem,if_yes,if_no,↓reduceIte,reduceAdd,reduceMul,reduceEqDiff,Nat.reduceBEq,reduceLeDiff];rfl)|(simp (disch:=omega) only[go_sem,if_yes,if_no,↓reduceIte,reduceAdd,reduceMul,reduceEqDiff,Nat.reduceBEq,reduceLeDiff]))),(by repeat' (first|exact trivial|refine And.intro ?_ ?_|rfl|(simp (disch:=omega) only[go_sem,if_yes,if_no,↓reduceIte,reduceAdd,reduceMul,reduceEqDiff,Nat.reduceBEq,reduceLeDiff];rfl)|(simp (disch:=omega) only[go_sem,if_yes,if_no,↓reduceIte,reduceAdd,reduceMul,reduceEqDiff,Nat.reduceBEq,reduceLeDiff]))),rfl,(by first|exact HOld.of _ (by omega)|exact HOld.put _ _ _ (by omega))⟩
end Go.Proofs.Ythjbfdfhblloiaa
