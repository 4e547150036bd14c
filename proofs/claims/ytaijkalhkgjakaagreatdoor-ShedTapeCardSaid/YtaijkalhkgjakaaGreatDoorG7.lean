/- Contracts of functions that the claim reaches: what each call gives, told in our own logic. Conditions: those of each theorem. -/
import Derived.Test.YtaijkalhkgjakaaGreatDoorG6
import Derived.Test.YtaijkalhkgjakaaGreatDoorBaseD
open Nat (reduceAdd reduceMul reduceEqDiff reduceLeDiff)
open List (length_map)
set_option linter.all false
set_option linter.unusedSimpArgs false
set_option linter.unusedVariables false
namespace Go.Proofs.YtaijkalhkgjakaaGreatDoor
open Go.Av
attribute [local irreducible] thenA blockA awp awpOps awpD awp1
set_option maxHeartbeats 8000000
set_option maxRecDepth 20000
structure Dr.Bd (x:Dr) (C:Int):Prop where
  h:∀ i,0≤x.hands.getD i 0∧x.hands.getD i 0≤C
  f:∀ i,0≤x.fls.getD i 0∧x.fls.getD i 0≤C
  l:0≤x.last∧x.last≤C
theorem lstep_bd {S:Sp} (hS:S.Ok) {x:Dr} (z:x.Sz S) (b:x.Bd 1000):∀ i,i≤S.js.length→(∀ g,0≤(lstep S.js x i).1.getD g 0∧(lstep S.js x i).1.getD g 0≤1000+30 * i)∧0≤(lstep S.js x i).2.2∧(lstep S.js x i).2.2≤30 * i:=by
  intro i
  induction i with
  | zero=>intro _;exact ⟨fun g=>by have:=b.f g;simp only[lstep];omega,by simp [lstep],by simp [lstep]⟩
  | succ i ih =>
    intro hi
    obtain ⟨h1,h2,h3⟩:=ih (by omega)
    have hj:=hS.j (show i < S.js.length by omega)
    have e0:S.j i=jOf S.js i:=rfl
    rw [e0] at hj
    unfold Jb.Ok at hj
    have hl:=(lstep_len (js:=S.js) (x:=x) i).1
    rw [z.fls] at hl
    cases hb:x.pl.testBit i with
    | true =>
      have e:lstep S.js x (i+1)=lstep S.js x i:=by simp only[lstep,hb,if_true]
      rw [e]
      exact ⟨fun g=>by have:=h1 g;omega,h2,by omega⟩
    | false =>
      have e:lstep S.js x (i+1)=((lstep S.js x i).1.set (jOf S.js i).f.toNat (max x.last ((lstep S.js x i).1.getD (jOf S.js i).f.toNat 0)+(jOf S.js i).d),(lstep S.js x i).2.1.set i (max x.last ((lstep S.js x i).1.getD (jOf S.js i).f.toNat 0)),(lstep S.js x i).2.2+(jOf S.js i).d):=by
        simp only[lstep,hb,Bool.false_eq_true,if_false]
      rw [e]
      dsimp only
      have hf:=h1 (jOf S.js i).f.toNat
      have hx:=b.l
      refine ⟨fun g=>?_,by omega,by omega⟩
      rw [getD_set _ _ _ _ _ (by omega)]
      have:=h1 g
      split <;> omega
theorem freeD_bd {x:Dr} (b:x.Bd 1000):∀ n:Nat,0≤freeD x n∧freeD x n≤1000 * n:=by
  intro n
  induction n with
  | zero=>simp [freeD]
  | succ n ih=>simp only[freeD];have:=b.h n;omega
theorem aC_rows (l:List Int) (n:Nat) (h:l.length=n):(aC n (ixF l)).map (fun x=>[x])=l.map iv:=by
  subst h
  apply List.ext_getElem?
  intro i
  by_cases hi:i < l.length
  · simp [aC,ixF,hi,List.getD_eq_getElem?_getD,iv]
  · simp [aC,hi]
theorem dC_hands (d h f:Nat→Int) (p l:Int):((dC d p h f l).drop 8).take 4=aC 4 h:=by
  apply List.ext_getElem?
  intro i
  rw [List.getElem?_take]
  by_cases hi:i < 4
  · rw [if_pos hi,List.getElem?_drop,dC_hand _ _ _ _ _ hi,aC_get hi]
  · rw [if_neg hi,List.getElem?_eq_none (by rw [aC_len];omega)]
theorem dC_arr0 (d h f:Nat→Int) (p l:Int):(dC d p h f l).take 7=aC 7 d:=by
  apply List.ext_getElem?
  intro i
  rw [List.getElem?_take]
  by_cases hi:i < 7
  · rw [if_pos hi,dC_day _ _ _ _ _ hi,aC_get hi]
  · rw [if_neg hi,List.getElem?_eq_none (by rw [aC_len];omega)]
theorem dC_arr3 (d h f:Nat→Int) (p l:Int):((dC d p h f l).drop 12).take 7=aC 7 f:=by
  apply List.ext_getElem?
  intro i
  rw [List.getElem?_take]
  by_cases hi:i < 7
  · rw [if_pos hi,List.getElem?_drop,dC_fl _ _ _ _ _ hi,aC_get hi]
  · rw [if_neg hi,List.getElem?_eq_none (by rw [aC_len];omega)]
theorem aC_take (n:Nat) (d:Nat→Int):(aC n d).take n=aC n d:=List.take_of_length_le (by rw [aC_len];omega)
theorem c102 (S:Sp) (x:Dr) (hS:S.Ok) (z:x.Sz S) (b:x.Bd 1000):Pure Tryz.prog 102 [x.av,S.av] (fun v=>v=.tup [.int .i64 (leastD S x).1,.agg (aC 7 (ixF (leastD S x).2))]):=by
  have h7:=hS.n7
  have h4:=hS.m4
  have h0:=hS.m0
  have hp:x.pl < 128:=Nat.lt_of_lt_of_le z.pl (Nat.pow_le_pow_right (by omega:0 < 2) h7)
  have hbl:=b.l
  intro h
  unfold Dr.av
  refine ACalls.forget (ACalls.of tab mixed Tryz.call102 Tryz.func102 rfl (fi:=⟨89,[5,7,10],[2,3,1000016],none,[(6,[0,0,2,0,8,24,56,126,255,511],[(0,false),(1,false),(2,true),(3,false),(4,true),(5,false),(6,false),(7,false),(8,false),(9,false)]),(7,[0,1,0,4,12,0,32,124,255,511],[(0,false),(1,true),(2,false),(3,false),(4,true),(5,false),(6,true),(7,false),(8,false),(9,false)]),(16,[0,0,2,7,15,31],[(0,false),(1,false),(2,false),(3,false),(4,false),(5,false)]),(20,[0,0,1,7],[(0,false),(1,true),(2,false),(3,false)])]⟩) rfl rfl (Nat.le_of_ble_eq_true rfl) (by decide) ?_)
  unfold startA
  try simp only[go_sem]
  repeat' (first|refine st_seq_reg rfl (by first|(simp only[go_sem,dC_arr0,dC_arr3,List.append_nil,aC_take];rfl)|rfl) (by first|(simp only[go_sem,dC_arr0,dC_arr3,List.append_nil,aC_take];rfl)|rfl) ?_|refine st_op ?_|refine st_det rfl (by simp (disch:=omega) only[go_sem,wr_i64,if_yes,if_no,↓reduceIte,reduceAdd,reduceMul,reduceEqDiff,Nat.reduceBEq,reduceLeDiff,dC_arr0,dC_arr3,List.append_nil,aC_take];rfl) ?_|refine st_loc rfl (by simp (disch:=omega) only[go_sem,wr_i64,if_yes,if_no,↓reduceIte,reduceAdd,reduceMul,reduceEqDiff,Nat.reduceBEq,reduceLeDiff,dC_arr0,dC_arr3,List.append_nil,aC_take];rfl) ?_|refine st_heap rfl (by simp (disch:=omega) only[go_sem,wr_i64,if_yes,if_no,↓reduceIte,reduceAdd,reduceMul,reduceEqDiff,Nat.reduceBEq,reduceLeDiff,dC_arr0,dC_arr3,List.append_nil,aC_take];rfl) ?_|refine st_store (by simp (disch:=omega) only[go_sem,wr_i64,if_yes,if_no,↓reduceIte,reduceAdd,reduceMul,reduceEqDiff,Nat.reduceBEq,reduceLeDiff,dC_arr0,dC_arr3,List.append_nil,aC_take];rfl) ?_|refine st_nil ?_|refine st_seq ?_|refine st_block ?_)
  refine st_loopH (α:=Nat) tab mixed [7] [_] (by repeat (first|exact trivial|refine ⟨rfl,?_⟩)) [5] [_] (by repeat (first|exact trivial|refine ⟨rfl,?_⟩)) (fun i=>[(22,.int .i64 i),(8,.int .i64 (lstep S.js x i).2.2)]) [(2,_),(3,_),(4,_),(5,_),(6,_),(7,_),(20,_),(21,_)] (fun i=>[aC 7 (ixF (lstep S.js x i).2.1)]) [_] (fun i=>(h.tick (h.clk+1+1+1)).put (h.clk+1,6) (some ⟨7,[aC 7 (ixF (lstep S.js x i).1)]⟩)) (fun i=>i≤S.js.length) (fun i=>S.js.length - i) (by decide) 0 (Nat.zero_le _) (by (try simp only[go_sem]);repeat' (first|exact trivial|refine And.intro ?_ ?_|rfl|(simp (disch:=omega) only[go_sem,if_yes,if_no,↓reduceIte,reduceAdd,reduceMul,reduceEqDiff,Nat.reduceBEq,reduceLeDiff];rfl)|(simp (disch:=omega) only[go_sem,if_yes,if_no,↓reduceIte,reduceAdd,reduceMul,reduceEqDiff,Nat.reduceBEq,reduceLeDiff]))) (by (try simp only[go_sem]);repeat' (first|exact trivial|refine And.intro ?_ ?_|rfl|(simp (disch:=omega) only[go_sem,if_yes,if_no,↓reduceIte,reduceAdd,reduceMul,reduceEqDiff,Nat.reduceBEq,reduceLeDiff];rfl)|(simp (disch:=omega) only[go_sem,if_yes,if_no,↓reduceIte,reduceAdd,reduceMul,reduceEqDiff,Nat.reduceBEq,reduceLeDiff]))) (HOld.refl _) ?_
  rintro i c hi hc
  have hc0:h.clk+1+1+1≤c:=hc
  simp only[go_sem]
  obtain ⟨hb1,hb2,hb3⟩:=lstep_bd hS z b i hi
  have hlen:=lstep_len (js:=S.js) (x:=x) i
  rw [z.fls,z.day] at hlen
  have hjk:i < S.js.length→(jOf S.js i).Ok:=fun h=>hS.j h
  unfold Jb.Ok at hjk
  have hbf:0≤ixF (lstep S.js x i).1 (jOf S.js i).f.toNat∧ixF (lstep S.js x i).1 (jOf S.js i).f.toNat≤1000+30 * i:=hb1 _
  have hT:x.pl.testBit i=true→lstep S.js x (i+1)=lstep S.js x i:=fun h=>by simp only[lstep,h,if_true]
  have hF:x.pl.testBit i=false→lstep S.js x (i+1)=((lstep S.js x i).1.set (jOf S.js i).f.toNat (max x.last (ixF (lstep S.js x i).1 (jOf S.js i).f.toNat)+(jOf S.js i).d),(lstep S.js x i).2.1.set i (max x.last (ixF (lstep S.js x i).1 (jOf S.js i).f.toNat)),(lstep S.js x i).2.2+(jOf S.js i).d):=fun h=>by
    simp only[lstep,h,Bool.false_eq_true,if_false];rfl
  repeat' (first|refine st_seq_reg rfl (by first|(simp only[go_sem,List.append_nil,Nat.mul_one,Nat.zero_add,dC_take,upd_same];rfl)|rfl) (by first|(simp only[go_sem,List.append_nil,Nat.mul_one,Nat.zero_add,dC_take,upd_same];rfl)|rfl) ?_|refine st_reg rfl (by first|(simp only[go_sem,List.append_nil,Nat.mul_one,Nat.zero_add,dC_take,upd_same];rfl)|rfl) (by first|(simp only[go_sem,List.append_nil,Nat.mul_one,Nat.zero_add,dC_take,upd_same];rfl)|rfl) ?_|refine st_seq_draw rfl (by first|(simp only[go_sem,List.append_nil,Nat.mul_one,Nat.zero_add,dC_take,upd_same];rfl)|rfl) (by first|(simp only[go_sem,List.append_nil,Nat.mul_one,Nat.zero_add,dC_take,upd_same];rfl)|rfl) ?_|refine st_op ?_|refine st_det rfl (by simp (disch:=omega) only[go_sem,wr_i64,if_yes,if_no,↓reduceIte,reduceAdd,reduceMul,reduceEqDiff,Nat.reduceBEq,reduceLeDiff,List.append_nil,Nat.mul_one,Nat.zero_add,dC_take,upd_same];rfl) ?_|refine st_dop rfl ?_|refine st_loc rfl (by simp (disch:=omega) only[go_sem,wr_i64,if_yes,if_no,↓reduceIte,reduceAdd,reduceMul,reduceEqDiff,Nat.reduceBEq,reduceLeDiff,List.append_nil,Nat.mul_one,Nat.zero_add,dC_take,upd_same];rfl) ?_|refine st_store (by simp (disch:=omega) only[go_sem,wr_i64,if_yes,if_no,↓reduceIte,reduceAdd,reduceMul,reduceEqDiff,Nat.reduceBEq,reduceLeDiff,List.append_nil,Nat.mul_one,Nat.zero_add,dC_take,upd_same];rfl) ?_|(refine st_pureE (by first|(simp (disch:=omega) only[go_sem,List.append_nil,Nat.mul_one,Nat.zero_add,dC_take,upd_same];rfl)|rfl) rfl (c132 x i hp (by omega)) (by first|(simp only[go_sem,List.append_nil,Nat.mul_one,Nat.zero_add,dC_take,upd_same];rfl)|rfl) (by intro n;first|(simp (disch:=omega) only[go_sem];rfl)|rfl) ?_;intro n hn)|(refine st_condS rfl ?_ ?_ <;> intro hg <;> (try simp only[decide_eq_true_eq,decide_eq_false_iff_not,Bool.not_eq_true',Bool.not_eq_false'] at hg))|refine st_nil ?_|refine st_dnil ?_|refine st_tN ?_|refine st_seq ?_|refine st_block ?_|refine st_skip ?_|refine st_exit ?_|refine st_tE ?_|refine st_bN ?_|refine st_bH ?_)
  · have e:=hF (by simpa using hg)
    have s1:ixF (lstep S.js x (i+1)).1=upd (ixF (lstep S.js x i).1) (jOf S.js i).f.toNat (max x.last (ixF (lstep S.js x i).1 (jOf S.js i).f.toNat)+(jOf S.js i).d):=by rw [e];exact ixF_set (by omega) _
    have s2:ixF (lstep S.js x (i+1)).2.1=upd (ixF (lstep S.js x i).2.1) i (max x.last (ixF (lstep S.js x i).1 (jOf S.js i).f.toNat)):=by rw [e];exact ixF_set (by omega) _
    have s3:(lstep S.js x (i+1)).2.2=(lstep S.js x i).2.2+(jOf S.js i).d:=by rw [e]
    refine ⟨i+1,(by omega),by omega,(by (try (simp only[s2,s3]));repeat' (first|exact trivial|refine And.intro ?_ ?_|rfl|(simp (disch:=omega) only[go_sem,if_yes,if_no,↓reduceIte,reduceAdd,reduceMul,reduceEqDiff,Nat.reduceBEq,reduceLeDiff];rfl)|(simp (disch:=omega) only[go_sem,if_yes,if_no,↓reduceIte,reduceAdd,reduceMul,reduceEqDiff,Nat.reduceBEq,reduceLeDiff]))),(by (try (simp only[s2,s3]));repeat' (first|exact trivial|refine And.intro ?_ ?_|rfl|(simp (disch:=omega) only[go_sem,if_yes,if_no,↓reduceIte,reduceAdd,reduceMul,reduceEqDiff,Nat.reduceBEq,reduceLeDiff];rfl)|(simp (disch:=omega) only[go_sem,if_yes,if_no,↓reduceIte,reduceAdd,reduceMul,reduceEqDiff,Nat.reduceBEq,reduceLeDiff]))),rfl,(by rw [s1];exact HOld.put _ _ _ (by omega))⟩
  · have e:=hT (by simpa using hg)
    refine ⟨i+1,(by omega),by omega,(by (try (rw [e]));repeat' (first|exact trivial|refine And.intro ?_ ?_|rfl|(simp (disch:=omega) only[go_sem,if_yes,if_no,↓reduceIte,reduceAdd,reduceMul,reduceEqDiff,Nat.reduceBEq,reduceLeDiff];rfl)|(simp (disch:=omega) only[go_sem,if_yes,if_no,↓reduceIte,reduceAdd,reduceMul,reduceEqDiff,Nat.reduceBEq,reduceLeDiff]))),(by (try (rw [e]));repeat' (first|exact trivial|refine And.intro ?_ ?_|rfl|(simp (disch:=omega) only[go_sem,if_yes,if_no,↓reduceIte,reduceAdd,reduceMul,reduceEqDiff,Nat.reduceBEq,reduceLeDiff];rfl)|(simp (disch:=omega) only[go_sem,if_yes,if_no,↓reduceIte,reduceAdd,reduceMul,reduceEqDiff,Nat.reduceBEq,reduceLeDiff]))),rfl,(by rw [e];exact HOld.put _ _ _ (by omega))⟩
  have ei:i=S.js.length:=by omega
  subst ei
  have hfb:=freeD_bd b
  refine st_loopH (α:=Nat) tab mixed [] [] (by repeat (first|exact trivial|refine ⟨rfl,?_⟩)) [5,7] [_,_] (by repeat (first|exact trivial|refine ⟨rfl,?_⟩)) (fun k=>[(57,.int .i64 k),(11,.int .i64 (freeD x k))]) [(2,_),(3,_),(4,_),(5,_),(6,_),(7,_),(8,_),(55,_),(56,_)] (fun _=>[]) [_,_] (fun k=>(h.tick (c+1+1+1)).put (h.clk+1,6) (some ⟨7,[aC 7 (ixF (lstep S.js x S.js.length).1)]⟩)) (fun k=>k≤S.ws.length) (fun k=>S.ws.length - k) (by decide) 0 (Nat.zero_le _) (by (try simp only[go_sem]);repeat' (first|exact trivial|refine And.intro ?_ ?_|rfl|(simp (disch:=omega) only[go_sem,if_yes,if_no,↓reduceIte,reduceAdd,reduceMul,reduceEqDiff,Nat.reduceBEq,reduceLeDiff];rfl)|(simp (disch:=omega) only[go_sem,if_yes,if_no,↓reduceIte,reduceAdd,reduceMul,reduceEqDiff,Nat.reduceBEq,reduceLeDiff]))) (by (try simp only[go_sem]);repeat' (first|exact trivial|refine And.intro ?_ ?_|rfl|(simp (disch:=omega) only[go_sem,if_yes,if_no,↓reduceIte,reduceAdd,reduceMul,reduceEqDiff,Nat.reduceBEq,reduceLeDiff];rfl)|(simp (disch:=omega) only[go_sem,if_yes,if_no,↓reduceIte,reduceAdd,reduceMul,reduceEqDiff,Nat.reduceBEq,reduceLeDiff]))) (HOld.refl _) ?_
  rintro k c' hk hc'
  have hc0':c+1+1+1≤c':=hc'
  simp only[go_sem]
  have hbk:=hfb k
  have hbk1:=hfb (k+1)
  have hbh:0≤ixF x.hands k∧ixF x.hands k≤1000:=b.h k
  repeat' (first|refine st_seq_reg rfl (by first|(simp only[go_sem,List.append_nil,Nat.mul_one,Nat.zero_add,dC_take,upd_same];rfl)|rfl) (by first|(simp only[go_sem,List.append_nil,Nat.mul_one,Nat.zero_add,dC_take,upd_same];rfl)|rfl) ?_|refine st_reg rfl (by first|(simp only[go_sem,List.append_nil,Nat.mul_one,Nat.zero_add,dC_take,upd_same];rfl)|rfl) (by first|(simp only[go_sem,List.append_nil,Nat.mul_one,Nat.zero_add,dC_take,upd_same];rfl)|rfl) ?_|refine st_op ?_|refine st_det rfl (by simp (disch:=omega) only[go_sem,wr_i64,if_yes,if_no,↓reduceIte,reduceAdd,reduceMul,reduceEqDiff,Nat.reduceBEq,reduceLeDiff,List.append_nil,Nat.mul_one,Nat.zero_add,dC_take,upd_same];rfl) ?_|(refine st_condS rfl ?_ ?_ <;> intro hg <;> (try simp only[decide_eq_true_eq,decide_eq_false_iff_not,Bool.not_eq_true',Bool.not_eq_false'] at hg))|refine st_nil ?_|refine st_tN ?_|refine st_seq ?_|refine st_block ?_|refine st_skip ?_|refine st_exit ?_|refine st_tE ?_|refine st_bN ?_|refine st_bH ?_)
  · have e:freeD x (k+1)=freeD x k+ixF x.hands k:=rfl
    refine ⟨k+1,(by omega),by omega,(by (try (rw [e]));repeat' (first|exact trivial|refine And.intro ?_ ?_|rfl|(simp (disch:=omega) only[go_sem,if_yes,if_no,↓reduceIte,reduceAdd,reduceMul,reduceEqDiff,Nat.reduceBEq,reduceLeDiff];rfl)|(simp (disch:=omega) only[go_sem,if_yes,if_no,↓reduceIte,reduceAdd,reduceMul,reduceEqDiff,Nat.reduceBEq,reduceLeDiff]))),(by (try (rw [e]));repeat' (first|exact trivial|refine And.intro ?_ ?_|rfl|(simp (disch:=omega) only[go_sem,if_yes,if_no,↓reduceIte,reduceAdd,reduceMul,reduceEqDiff,Nat.reduceBEq,reduceLeDiff];rfl)|(simp (disch:=omega) only[go_sem,if_yes,if_no,↓reduceIte,reduceAdd,reduceMul,reduceEqDiff,Nat.reduceBEq,reduceLeDiff]))),rfl,HOld.put _ _ _ (by omega)⟩
  have ek:k=S.ws.length:=by omega
  subst ek
  first|refine st_free ?_|refine st_seq_free ?_
  refine ASem.frzT 6 (b:=(h.clk+1,6)) (z:=7) (row:=aC 7 (ixF (lstep S.js x S.js.length).1)) (by simp only[go_sem,↓reduceIte]) (by simp only[go_sem,↓reduceIte,reduceEqDiff]) ?_
  refine st_run tab mixed (f2:=⟨89,[5,7,10],[2,3],none,[(6,[0,0,2,0,8,24,56,126,255,511],[(0,false),(1,false),(2,true),(3,false),(4,true),(5,false),(6,false),(7,false),(8,false),(9,false)]),(7,[0,1,0,4,12,0,32,124,255,511],[(0,false),(1,true),(2,false),(3,false),(4,true),(5,false),(6,true),(7,false),(8,false),(9,false)]),(16,[0,0,2,7,15,31],[(0,false),(1,false),(2,false),(3,false),(4,false),(5,false)]),(20,[0,0,1,7],[(0,false),(1,true),(2,false),(3,false)])]⟩) rfl rfl (by decide) ?_
  have hlf:(lstep S.js x S.js.length).1.length=7:=hlen.1
  have hrw:(aC 7 (ixF (lstep S.js x S.js.length).1)).map (fun x=>[x]) ++ (aC 4 (ixF x.hands)).map (fun x=>[x])=((lstep S.js x S.js.length).1 ++ x.hands).map iv:=by
    rw [aC_rows _ _ hlf,aC_rows _ _ z.hands,List.map_append]
  have hes:((lstep S.js x S.js.length).1 ++ x.hands) ≠ []:=by intro e;have:=congrArg List.length e;simp [z.hands] at this
  have h11:(((lstep S.js x S.js.length).1 ++ x.hands).map iv).length=11:=by simp [hlf,z.hands]
  have hfz:frz (c'+1,70) ⟨1,((lstep S.js x S.js.length).1 ++ x.hands).map iv⟩ (.slc (c'+1,70) 1 0 11)=.lst 1 (((lstep S.js x S.js.length).1 ++ x.hands).map iv):=by
    simp only[frz,h11,List.drop_zero,Nat.zero_add,Nat.le_refl,and_self,if_true]
    rw [List.take_of_length_le (by rw [h11];omega)]
  have hm0:0≤maxL ((lstep S.js x S.js.length).1 ++ x.hands):=Int.le_trans (b.h 0).1 (maxL_ge (List.mem_append.2 (.inr (getD_mem (by rw [z.hands];omega)))))
  have hmx:maxL ((lstep S.js x S.js.length).1 ++ x.hands)≤2000:=by
    obtain ⟨j,hj,e⟩:=mem_getD (maxL_mem hes)
    rw [← e,getD_append]
    split
    · have:=hb1 j;omega
    · have:=b.h (j - (lstep S.js x S.js.length).1.length);omega
  have hfr:=hfb S.ws.length
  have hmw:(S.ws.length:Int) ≠ 0:=by omega
  repeat' (first|refine st_seq_reg rfl (by first|(simp only[go_sem,List.append_nil,Nat.mul_one,Nat.zero_add,dC_take,upd_same,aC_take,dC_hands,length_map,big,hrw,List.drop_zero,hmw];rfl)|rfl) (by first|(simp only[go_sem,List.append_nil,Nat.mul_one,Nat.zero_add,dC_take,upd_same,aC_take,dC_hands,length_map,big,hrw,List.drop_zero,hmw];rfl)|rfl) ?_|refine st_reg rfl (by first|(simp only[go_sem,List.append_nil,Nat.mul_one,Nat.zero_add,dC_take,upd_same,aC_take,dC_hands,length_map,big,hrw,List.drop_zero,hmw];rfl)|rfl) (by first|(simp only[go_sem,List.append_nil,Nat.mul_one,Nat.zero_add,dC_take,upd_same,aC_take,dC_hands,length_map,big,hrw,List.drop_zero,hmw];rfl)|rfl) ?_|refine st_seq_draw rfl (by first|(simp only[go_sem,List.append_nil,Nat.mul_one,Nat.zero_add,dC_take,upd_same,aC_take,dC_hands,length_map,big,hrw,List.drop_zero,hmw];rfl)|rfl) (by first|(simp only[go_sem,List.append_nil,Nat.mul_one,Nat.zero_add,dC_take,upd_same,aC_take,dC_hands,length_map,big,hrw,List.drop_zero,hmw];rfl)|rfl) ?_|refine st_draw rfl (by first|(simp only[go_sem,List.append_nil,Nat.mul_one,Nat.zero_add,dC_take,upd_same,aC_take,dC_hands,length_map,big,hrw,List.drop_zero,hmw];rfl)|rfl) (by first|(simp only[go_sem,List.append_nil,Nat.mul_one,Nat.zero_add,dC_take,upd_same,aC_take,dC_hands,length_map,big,hrw,List.drop_zero,hmw];rfl)|rfl) ?_|refine st_op ?_|refine st_det rfl (by simp (disch:=omega) only[go_sem,wr_i64,if_yes,if_no,↓reduceIte,reduceAdd,reduceMul,reduceEqDiff,Nat.reduceBEq,reduceLeDiff,List.append_nil,Nat.mul_one,Nat.zero_add,dC_take,upd_same,aC_take,dC_hands,length_map,big,hrw,List.drop_zero,hmw];rfl) ?_|refine st_dop rfl ?_|refine st_store (by simp (disch:=omega) only[go_sem,wr_i64,if_yes,if_no,↓reduceIte,reduceAdd,reduceMul,reduceEqDiff,Nat.reduceBEq,reduceLeDiff,List.append_nil,Nat.mul_one,Nat.zero_add,dC_take,upd_same,aC_take,dC_hands,length_map,big,hrw,List.drop_zero,hmw];rfl) ?_|refine st_append (by simp (disch:=omega) only[go_sem,wr_i64,if_yes,if_no,↓reduceIte,reduceAdd,reduceMul,reduceEqDiff,Nat.reduceBEq,reduceLeDiff,List.append_nil,Nat.mul_one,Nat.zero_add,dC_take,upd_same,aC_take,dC_hands,length_map,big,hrw,List.drop_zero,hmw];rfl) ?_|(refine st_callf (args:=[.slc (c'+1,70) 1 0 11]) rfl rfl (ACalls.frzIn (b:=(c'+1,70)) (k:=⟨1,((lstep S.js x S.js.length).1 ++ x.hands).map iv⟩) (args':=[.lst 1 (((lstep S.js x S.js.length).1 ++ x.hands).map iv)]) (by simp only[go_sem,↓reduceIte] <;> rfl) (by simp only[frzs,hfz]) (c133 _ hes (by simp [hlf,z.hands]) _)) ?_;rintro v h' ⟨⟨n,hn,rfl⟩,rfl⟩)|(refine st_condS rfl ?_ ?_ <;> intro hg <;> (try simp only[decide_eq_true_eq,decide_eq_false_iff_not,Bool.not_eq_true',Bool.not_eq_false'] at hg))|refine st_nil ?_|refine st_dnil ?_|refine st_tN ?_|refine st_seq ?_|refine st_skip ?_|refine st_ret ?_)
  all_goals
    have hq:∀ b':Bid,b'.1 < h.clk→¬ b'=(h.clk+1,6)∧¬ b'=(c'+1,70):=fun b' hb'=>⟨fun e=>by rw [e] at hb';exact absurd hb' (by show ¬ h.clk+1 < h.clk;omega),fun e=>by rw [e] at hb';exact absurd hb' (by show ¬ c'+1 < h.clk;omega)⟩
  · simp (disch:=omega) only[AEnd,Tryz.results102,aresK,fin,go_sem,↓reduceIte,reduceEqDiff,reduceAdd,reduceLeDiff,if_yes,if_no,implies_true,true_and,and_true,List.reverse_cons,List.reverse_nil]
    refine ⟨fun b' hb'=>by simp only[(hq b' hb').1,(hq b' hb').2,if_false],?_⟩
    simp only[leastD]
    rw [if_pos (by omega),aC_take]
    have hA:0≤freeD x S.ws.length+(lstep S.js x S.js.length).2.2+S.ws.length - 1:=by omega
    have hq1:0≤(freeD x S.ws.length+(lstep S.js x S.js.length).2.2+S.ws.length - 1).tdiv S.ws.length:=Int.tdiv_nonneg hA (by omega)
    have hq2:(freeD x S.ws.length+(lstep S.js x S.js.length).2.2+S.ws.length - 1).tdiv S.ws.length≤freeD x S.ws.length+(lstep S.js x S.js.length).2.2+S.ws.length - 1:=Int.tdiv_le_self _ hA
    rw [wr_i64 (by omega)]
  · simp (disch:=omega) only[AEnd,Tryz.results102,aresK,fin,go_sem,↓reduceIte,reduceEqDiff,reduceAdd,reduceLeDiff,if_yes,if_no,implies_true,true_and,and_true,List.reverse_cons,List.reverse_nil]
    refine ⟨fun b' hb'=>by simp only[(hq b' hb').1,(hq b' hb').2,if_false],?_⟩
    simp only[leastD]
    rw [if_neg (by omega),aC_take]
end Go.Proofs.YtaijkalhkgjakaaGreatDoor
