/- Contracts of functions that the claim reaches: what each call gives, told in our own logic. Conditions: those of each theorem. -/
import Derived.Test.YtaijkalhkgjakaaGreatDoorG6
import Derived.Test.YtaijkalhkgjakaaGreatDoorBaseD
open List (length_map)
set_option linter.all false
set_option linter.unusedSimpArgs false
set_option linter.unusedVariables false
namespace Go.Proofs.YtaijkalhkgjakaaGreatDoor
open Go.Av
attribute [local irreducible] thenA blockA awp awpOps awpD awp1
attribute [local go_sem_proc] Nat.reduceAdd Nat.reduceMul Nat.reduceEqDiff Nat.reduceBEq Nat.reduceLeDiff
attribute [local go_sem_proc ↓] reduceIte
attribute [local go_sem] if_yes if_no
set_option maxHeartbeats 8000000
set_option maxRecDepth 20000
structure Dr.Bd (x:Dr) (C:Int):Prop where
 h:∀ i,0≤x.hands.getD i 0∧x.hands.getD i 0≤C
 f:∀ i,0≤x.fls.getD i 0∧x.fls.getD i 0≤C
 l:0≤x.last∧x.last≤C
theorem lstep_bd {S:Sp} (hS:S.Ok) {x:Dr} (z:x.Sz S) (b:x.Bd 1000):∀ i,i≤S.js.length→(∀ g,0≤(lstep S.js x i).1.getD g 0∧(lstep S.js x i).1.getD g 0≤1000+30 * i)∧0≤(lstep S.js x i).2.2∧(lstep S.js x i).2.2≤30 * i:=by
 intro i
 induction i with
 | zero=>intro _;exact ⟨fun g=>by have:=b.f g;simp only[lstep];omega,by simp [lstep],by simp [lstep]⟩
 | succ i ih =>
  intro hi
  obtain ⟨h1,h2,h3⟩:=ih (by omega)
  have hj:=hS.j (show i < S.js.length by omega)
  have e0:S.j i=jOf S.js i:=rfl
  rw [e0] at hj
  unfold Jb.Ok at hj
  have hl:=(lstep_len (js:=S.js) (x:=x) i).1
  rw [z.fls] at hl
  cases hb:x.pl.testBit i with
  | true =>
   have e:lstep S.js x (i+1)=lstep S.js x i:=by simp only[lstep,hb,if_true]
   rw [e]
   exact ⟨fun g=>by have:=h1 g;omega,h2,by omega⟩
  | false =>
   have e:lstep S.js x (i+1)=((lstep S.js x i).1.set (jOf S.js i).f.toNat (max x.last ((lstep S.js x i).1.getD (jOf S.js i).f.toNat 0)+(jOf S.js i).d),(lstep S.js x i).2.1.set i (max x.last ((lstep S.js x i).1.getD (jOf S.js i).f.toNat 0)),(lstep S.js x i).2.2+(jOf S.js i).d):=by
    simp only[lstep,hb,Bool.false_eq_true,if_false]
   rw [e]
   dsimp only
   have hf:=h1 (jOf S.js i).f.toNat
   have hx:=b.l
   refine ⟨fun g=>?_,by omega,by omega⟩
   rw [getD_set _ _ _ _ _ (by omega)]
   have:=h1 g
   split <;> omega
theorem freeD_bd {x:Dr} (b:x.Bd 1000):∀ n:Nat,0≤freeD x n∧freeD x n≤1000 * n:=by
 intro n
 induction n with
 | zero=>simp [freeD]
 | succ n ih=>simp only[freeD];have:=b.h n;omega
theorem aC_rows (l:List Int) (n:Nat) (h:l.length=n):(aC n (ixF l)).map (fun x=>[x])=l.map iv:=by
 subst h
 apply List.ext_getElem?
 intro i
 by_cases hi:i < l.length
 ·simp [aC,ixF,hi,List.getD_eq_getElem?_getD,iv]
 ·simp [aC,hi]
theorem dC_hands (d h f:Nat→Int) (p l:Int):((dC d p h f l).drop 8).take 4=aC 4 h:=by
 apply List.ext_getElem?
 intro i
 rw [List.getElem?_take]
 by_cases hi:i < 4
 ·rw [if_pos hi,List.getElem?_drop,dC_hand _ _ _ _ _ hi,aC_get hi]
 ·rw [if_neg hi,List.getElem?_eq_none (by rw [aC_len];omega)]
theorem dC_arr0 (d h f:Nat→Int) (p l:Int):(dC d p h f l).take 7=aC 7 d:=by
 apply List.ext_getElem?
 intro i
 rw [List.getElem?_take]
 by_cases hi:i < 7
 ·rw [if_pos hi,dC_day _ _ _ _ _ hi,aC_get hi]
 ·rw [if_neg hi,List.getElem?_eq_none (by rw [aC_len];omega)]
theorem dC_arr3 (d h f:Nat→Int) (p l:Int):((dC d p h f l).drop 12).take 7=aC 7 f:=by
 apply List.ext_getElem?
 intro i
 rw [List.getElem?_take]
 by_cases hi:i < 7
 ·rw [if_pos hi,List.getElem?_drop,dC_fl _ _ _ _ _ hi,aC_get hi]
 ·rw [if_neg hi,List.getElem?_eq_none (by rw [aC_len];omega)]
theorem aC_take (n:Nat) (d:Nat→Int):(aC n d).take n=aC n d:=List.take_of_length_le (by rw [aC_len];omega)
theorem c102 (S:Sp) (x:Dr) (hS:S.Ok) (z:x.Sz S) (b:x.Bd 1000):Pure Tryz.prog 102 [x.av,S.av] (fun v=>v=.tup [.int .i64 (leastD S x).1,.agg (aC 7 (ixF (leastD S x).2))]):=by
 have h7:=hS.n7
 have h4:=hS.m4
 have h0:=hS.m0
 have hp:x.pl < 128:=Nat.lt_of_lt_of_le z.pl (Nat.pow_le_pow_right (by omega:0 < 2) h7)
 have hbl:=b.l
 intro h
 unfold Dr.av
 refine ACalls.forget (ACalls.of tab mixed Tryz.call102 Tryz.func102 rfl (fi:=⟨89,[5,7,10],[2,3,1000016],none,[(6,[0,0,2,0,8,24,56,126,255,511],[(0,false),(1,false),(2,true),(3,false),(4,true),(5,false),(6,false),(7,false),(8,false),(9,false)]),(7,[0,1,0,4,12,0,32,124,255,511],[(0,false),(1,true),(2,false),(3,false),(4,true),(5,false),(6,true),(7,false),(8,false),(9,false)]),(16,[0,0,2,7,15,31],[(0,false),(1,false),(2,false),(3,false),(4,false),(5,false)]),(20,[0,0,1,7],[(0,false),(1,true),(2,false),(3,false)])]⟩) rfl rfl (Nat.le_of_ble_eq_true rfl) (by decide) ?_)
 unfold startA
 try simp only[go_sem]
 repeat' (first|refine st_seq_reg rfl (by first|(simp only[go_sem,dC_arr0,dC_arr3,List.append_nil,aC_take];rfl)|rfl) (by first|(simp only[go_sem,dC_arr0,dC_arr3,List.append_nil,aC_take];rfl)|rfl) ?_|refine st_op ?_|refine st_det rfl (by simp (disch:=omega) only[go_sem,wr_i64,dC_arr0,dC_arr3,List.append_nil,aC_take];rfl) ?_|refine st_loc rfl (by simp (disch:=omega) only[go_sem,wr_i64,dC_arr0,dC_arr3,List.append_nil,aC_take];rfl) ?_|refine st_heap rfl (by simp (disch:=omega) only[go_sem,wr_i64,dC_arr0,dC_arr3,List.append_nil,aC_take];rfl) ?_|refine st_store (by simp (disch:=omega) only[go_sem,wr_i64,dC_arr0,dC_arr3,List.append_nil,aC_take];rfl) ?_|refine st_nil ?_|refine st_seq ?_|refine st_block ?_)
 refine st_loopH (α:=Nat) tab mixed [7] [_] (by repeat (first|exact trivial|refine ⟨rfl,?_⟩)) [5] [_] (by repeat (first|exact trivial|refine ⟨rfl,?_⟩)) (fun i=>[(22,.int .i64 i),(8,.int .i64 (lstep S.js x i).2.2)]) [(2,_),(3,_),(4,_),(5,_),(6,_),(7,_),(20,_),(21,_)] (fun i=>[aC 7 (ixF (lstep S.js x i).2.1)]) [_] (fun i=>(h.tick (h.clk+1+1+1)).put (h.clk+1,6) (some ⟨7,[aC 7 (ixF (lstep S.js x i).1)]⟩)) (fun i=>i≤S.js.length) (fun i=>S.js.length - i) (by decide) 0 (Nat.zero_le _) (by (try simp only[go_sem]);repeat' (first|exact trivial|refine And.intro ?_ ?_|rfl|(simp (disch:=omega) only[go_sem,if_yes,if_no,if_no];rfl)|(simp (disch:=omega) only[go_sem,if_yes,if_no,if_no]))) (by (try simp only[go_sem]);repeat' (first|exact trivial|refine And.intro ?_ ?_|rfl|(simp (disch:=omega) only[go_sem,if_yes,if_no,if_no];rfl)|(simp (disch:=omega) only[go_sem,if_yes,if_no,if_no]))) (HOld.refl _) ?_
 rintro i c hi hc
 have hc0:h.clk+1+1+1≤c:=hc
 simp only[go_sem]
 obtain ⟨hb1,hb2,hb3⟩:=lstep_bd hS z b i hi
 have hlen:=lstep_len (js:=S.js) (x:=x) i
 rw [z.fls,z.day] at hlen
 have hjk:i < S.js.length→(jOf S.js i).Ok:=fun h=>hS.j h
 unfold Jb.Ok at hjk
 have hbf:0≤ixF (lstep S.js x i).1 (jOf S.js i).f.toNat∧ixF (lstep S.js x i).1 (jOf S.js i).f.toNat≤1000+30 * i:=hb1 _
 have hT:x.pl.testBit i=true→lstep S.js x (i+1)=lstep S.js x i:=fun h=>by simp only[lstep,h,if_true]
 have hF:x.pl.testBit i=false→lstep S.js x (i+1)=((lstep S.js x i).1.set (jOf S.js i).f.toNat (max x.last (ixF (lstep S.js x i).1 (jOf S.js i).f.toNat)+(jOf S.js i).d),(lstep S.js x i).2.1.set i (max x.last (ixF (lstep S.js x i).1 (jOf S.js i).f.toNat)),(lstep S.js x i).2.2+(jOf S.js i).d):=fun h=>by
  simp only[lstep,h,Bool.false_eq_true,if_false];rfl
 repeat' (first|refine st_seq_reg rfl (by first|(simp only[go_sem,List.append_nil,Nat.mul_one,Nat.zero_add,dC_take,upd_same];rfl)|rfl) (by first|(simp only[go_sem,List.append_nil,Nat.mul_one,Nat.zero_add,dC_take,upd_same];rfl)|rfl) ?_|refine st_reg rfl (by first|(simp only[go_sem,List.append_nil,Nat.mul_one,Nat.zero_add,dC_take,upd_same];rfl)|rfl) (by first|(simp only[go_sem,List.append_nil,Nat.mul_one,Nat.zero_add,dC_take,upd_same];rfl)|rfl) ?_|refine st_seq_draw rfl (by first|(simp only[go_sem,List.append_nil,Nat.mul_one,Nat.zero_add,dC_take,upd_same];rfl)|rfl) (by first|(simp only[go_sem,List.append_nil,Nat.mul_one,Nat.zero_add,dC_take,upd_same];rfl)|rfl) ?_|refine st_op ?_|refine st_det rfl (by simp (disch:=omega) only[go_sem,wr_i64,List.append_nil,Nat.mul_one,Nat.zero_add,dC_take,upd_same];rfl) ?_|refine st_dop rfl ?_|refine st_loc rfl (by simp (disch:=omega) only[go_sem,wr_i64,List.append_nil,Nat.mul_one,Nat.zero_add,dC_take,upd_same];rfl) ?_|refine st_store (by simp (disch:=omega) only[go_sem,wr_i64,List.append_nil,Nat.mul_one,Nat.zero_add,dC_take,upd_same];rfl) ?_|(refine st_pureE (by first|(simp (disch:=omega) only[go_sem,List.append_nil,Nat.mul_one,Nat.zero_add,dC_take,upd_same];rfl)|rfl) rfl (c132 x i hp (by omega)) (by first|(simp only[go_sem,List.append_nil,Nat.mul_one,Nat.zero_add,dC_take,upd_same];rfl)|rfl) (by intro n;first|(simp (disch:=omega) only[go_sem];rfl)|rfl) ?_;intro n hn)|(refine st_condS rfl ?_ ?_ <;> intro hg <;> (try simp only[dcT,dcF,bnT,bnF] at hg))|refine st_nil ?_|refine st_dnil ?_|refine st_tN ?_|refine st_seq ?_|refine st_block ?_|refine st_skip ?_|refine st_exit ?_|refine st_tE ?_|refine st_bN ?_|refine st_bH ?_)
 ·have e:=hF (by simpa using hg)
  have s1:ixF (lstep S.js x (i+1)).1=upd (ixF (lstep S.js x i).1) (jOf S.js i).f.toNat (max x.last (ixF (lstep S.js x i).1 (jOf S.js i).f.toNat)+(jOf S.js i).d):=by rw [e];exact ixF_set (by omega) _
  have s2:ixF (lstep S.js x (i+1)).2.1=upd (ixF (lstep S.js x i).2.1) i (max x.last (ixF (lstep S.js x i).1 (jOf S.js i).f.toNat)):=by rw [e];exact ixF_set (by omega) _
  have s3:(lstep S.js x (i+1)).2.2=(lstep S.js x i).2.2+(jOf S.js i).d:=by rw [e]
  refine ⟨i+1,(by omega),by omega,(by (try (simp only[s2,s3]));repeat' (first|exact trivial|refine And.intro ?_ ?_|rfl|(simp (disch:=omega) only[go_sem,if_yes,if_no,if_no];rfl)|(simp (disch:=omega) only[go_sem,if_yes,if_no,if_no]))),(by (try (simp only[s2,s3]));repeat' (first|exact trivial|refine And.intro ?_ ?_|rfl|(simp (disch:=omega) only[go_sem,if_yes,if_no,if_no];rfl)|(simp (disch:=omega) only[go_sem,if_yes,if_no,if_no]))),rfl,(by rw [s1];exact HOld.put _ _ _ (by omega))⟩
 ·have e:=hT (by simpa using hg)
  refine ⟨i+1,(by omega),by omega,(by (try (rw [e]));repeat' (first|exact trivial|refine And.intro ?_ ?_|rfl|(simp (disch:=omega) only[go_sem,if_yes,if_no,if_no];rfl)|(simp (disch:=omega) only[go_sem,if_yes,if_no,if_no]))),(by (try (rw [e]));repeat' (first|exact trivial|refine And.intro ?_ ?_|rfl|(simp (disch:=omega) only[go_sem,if_yes,if_no,if_no];rfl)|(simp (disch:=omega) only[go_sem,if_yes,if_no,if_no]))),rfl,(by rw [e];exact HOld.put _ _ _ (by omega))⟩
 have ei:i=S.js.length:=by omega
 subst ei
 have hfb:=freeD_bd b
 refine st_loopH (α:=Nat) tab mixed [] [] (by repeat (first|exact trivial|refine ⟨rfl,?_⟩)) [5,7] [_,_] (by repeat (first|exact trivial|refine ⟨rfl,?_⟩)) (fun k=>[(57,.int .i64 k),(11,.int .i64 (freeD x k))]) [(2,_),(3,_),(4,_),(5,_),(6,_),(7,_),(8,_),(55,_),(56,_)] (fun _=>[]) [_,_] (fun k=>(h.tick (c+1+1+1)).put (h.clk+1,6) (some ⟨7,[aC 7 (ixF (lstep S.js x S.js.length).1)]⟩)) (fun k=>k≤S.ws.length) (fun k=>S.ws.length - k) (by decide) 0 (Nat.zero_le _) (by (try simp only[go_sem]);repeat' (first|exact trivial|refine And.intro ?_ ?_|rfl|(simp (disch:=omega) only[go_sem,if_yes,if_no,if_no];rfl)|(simp (disch:=omega) only[go_sem,if_yes,if_no,if_no]))) (by (try simp only[go_sem]);repeat' (first|exact trivial|refine And.intro ?_ ?_|rfl|(simp (disch:=omega) only[go_sem,if_yes,if_no,if_no];rfl)|(simp (disch:=omega) only[go_sem,if_yes,if_no,if_no]))) (HOld.refl _) ?_
 rintro k c' hk hc'
 have hc0':c+1+1+1≤c':=hc'
 simp only[go_sem]
 have hbk:=hfb k
 have hbk1:=hfb (k+1)
 have hbh:0≤ixF x.hands k∧ixF x.hands k≤1000:=b.h k
 repeat' (first|refine st_seq_reg rfl (by first|(simp only[go_sem,List.append_nil,Nat.mul_one,Nat.zero_add,dC_take,upd_same];rfl)|rfl) (by first|(simp only[go_sem,List.append_nil,Nat.mul_one,Nat.zero_add,dC_take,upd_same];rfl)|rfl) ?_|refine st_reg rfl (by first|(simp only[go_sem,List.append_nil,Nat.mul_one,Nat.zero_add,dC_take,upd_same];rfl)|rfl) (by first|(simp only[go_sem,List.append_nil,Nat.mul_one,Nat.zero_add,dC_take,upd_same];rfl)|rfl) ?_|refine st_op ?_|refine st_det rfl (by simp (disch:=omega) only[go_sem,wr_i64,List.append_nil,Nat.mul_one,Nat.zero_add,dC_take,upd_same];rfl) ?_|(refine st_condS rfl ?_ ?_ <;> intro hg <;> (try simp only[dcT,dcF,bnT,bnF] at hg))|refine st_nil ?_|refine st_tN ?_|refine st_seq ?_|refine st_block ?_|refine st_skip ?_|refine st_exit ?_|refine st_tE ?_|refine st_bN ?_|refine st_bH ?_)
 ·have e:freeD x (k+1)=freeD x k+ixF x.hands k:=rfl
  refine ⟨k+1,(by omega),by omega,(by (try (rw [e]));repeat' (first|exact trivial|refine And.intro ?_ ?_|rfl|(simp (disch:=omega) only[go_sem,if_yes,if_no,if_no];rfl)|(simp (disch:=omega) only[go_sem,if_yes,if_no,if_no]))),(by (try (rw [e]));repeat' (first|exact trivial|refine And.intro ?_ ?_|rfl|(simp (disch:=omega) only[go_sem,if_yes,if_no,if_no];rfl)|(simp (disch:=omega) only[go_sem,if_yes,if_no,if_no]))),rfl,HOld.put _ _ _ (by omega)⟩
 have ek:k=S.ws.length:=by omega
 subst ek
 first|refine st_free ?_|refine st_seq_free ?_
 refine ASem.frzT 6 (b:=(h.clk+1,6)) (z:=7) (row:=aC 7 (ixF (lstep S.js x S.js.length).1)) (by simp only[go_sem,↓reduceIte]) (by simp only[go_sem,↓reduceIte,Nat.reduceEqDiff]) ?_
 refine st_run tab mixed (f2:=⟨89,[5,7,10],[2,3],none,[(6,[0,0,2,0,8,24,56,126,255,511],[(0,false),(1,false),(2,true),(3,false),(4,true),(5,false),(6,false),(7,false),(8,false),(9,false)]),(7,[0,1,0,4,12,0,32,124,255,511],[(0,false),(1,true),(2,false),(3,false),(4,true),(5,false),(6,true),(7,false),(8,false),(9,false)]),(16,[0,0,2,7,15,31],[(0,false),(1,false),(2,false),(3,false),(4,false),(5,false)]),(20,[0,0,1,7],[(0,false),(1,true),(2,false),(3,false)])]⟩) rfl rfl (by decide) ?_
 have hlf:(lstep S.js x S.js.length).1.length=7:=hlen.1
 have hrw:(aC 7 (ixF (lstep S.js x S.js.length).1)).map (fun x=>[x]) ++ (aC 4 (ixF x.hands)).map (fun x=>[x])=((lstep S.js x S.js.length).1 ++ x.hands).map iv:=by
  rw [aC_rows _ _ hlf,aC_rows _ _ z.hands,List.map_append]
 have hes:((lstep S.js x S.js.length).1 ++ x.hands) ≠ []:=by intro e;have:=congrArg List.length e;simp [z.hands] at this
 have h11:(((lstep S.js x S.js.length).1 ++ x.hands).map iv).length=11:=by simp [hlf,z.hands]
 have hfz:frz (c'+1,70) ⟨1,((lstep S.js x S.js.length).1 ++ x.hands).map iv⟩ (.slc (c'+1,70) 1 0 11)=.lst 1 (((lstep S.js x S.js.length).1 ++ x.hands).map iv):=by
  simp only[frz,h11,List.drop_zero,Nat.zero_add,Nat.le_refl,and_self,if_true]
  rw [List.take_of_length_le (by rw [h11];omega)]
 have hm0:0≤maxL ((lstep S.js x S.js.length).1 ++ x.hands):=Int.le_trans (b.h 0).1 (maxL_ge (List.mem_append.2 (.inr (getD_mem (by rw [z.hands];omega)))))
 have hmx:maxL ((lstep S.js x S.js.length).1 ++ x.hands)≤2000:=by
  obtain ⟨j,hj,e⟩:=mem_getD (maxL_mem hes)
  rw [← e,getD_append]
  split
  ·have:=hb1 j;omega
  ·have:=b.h (j - (lstep S.js x S.js.length).1.length);omega
 have hfr:=hfb S.ws.length
 have hmw:(S.ws.length:Int) ≠ 0:=by omega
 repeat' (first|refine st_seq_reg rfl (by first|(simp only[go_sem,List.append_nil,Nat.mul_one,Nat.zero_add,dC_take,upd_same,aC_take,dC_hands,Lm,big,hrw,List.drop_zero,hmw];rfl)|rfl) (by first|(simp only[go_sem,List.append_nil,Nat.mul_one,Nat.zero_add,dC_take,upd_same,aC_take,dC_hands,Lm,big,hrw,List.drop_zero,hmw];rfl)|rfl) ?_|refine st_reg rfl (by first|(simp only[go_sem,List.append_nil,Nat.mul_one,Nat.zero_add,dC_take,upd_same,aC_take,dC_hands,Lm,big,hrw,List.drop_zero,hmw];rfl)|rfl) (by first|(simp only[go_sem,List.append_nil,Nat.mul_one,Nat.zero_add,dC_take,upd_same,aC_take,dC_hands,Lm,big,hrw,List.drop_zero,hmw];rfl)|rfl) ?_|refine st_seq_draw rfl (by first|(simp only[go_sem,List.append_nil,Nat.mul_one,Nat.zero_add,dC_take,upd_same,aC_take,dC_hands,Lm,big,hrw,List.drop_zero,hmw];rfl)|rfl) (by first|(simp only[go_sem,List.append_nil,Nat.mul_one,Nat.zero_add,dC_take,upd_same,aC_take,dC_hands,Lm,big,hrw,List.drop_zero,hmw];rfl)|rfl) ?_|refine st_draw rfl (by first|(simp only[go_sem,List.append_nil,Nat.mul_one,Nat.zero_add,dC_take,upd_same,aC_take,dC_hands,Lm,big,hrw,List.drop_zero,hmw];rfl)|rfl) (by first|(simp only[go_sem,List.append_nil,Nat.mul_one,Nat.zero_add,dC_take,upd_same,aC_take,dC_hands,Lm,big,hrw,List.drop_zero,hmw];rfl)|rfl) ?_|refine st_op ?_|refine st_det rfl (by simp (disch:=omega) only[go_sem,wr_i64,List.append_nil,Nat.mul_one,Nat.zero_add,dC_take,upd_same,aC_take,dC_hands,Lm,big,hrw,List.drop_zero,hmw];rfl) ?_|refine st_dop rfl ?_|refine st_store (by simp (disch:=omega) only[go_sem,wr_i64,List.append_nil,Nat.mul_one,Nat.zero_add,dC_take,upd_same,aC_take,dC_hands,Lm,big,hrw,List.drop_zero,hmw];rfl) ?_|refine st_append (by simp (disch:=omega) only[go_sem,wr_i64,List.append_nil,Nat.mul_one,Nat.zero_add,dC_take,upd_same,aC_take,dC_hands,Lm,big,hrw,List.drop_zero,hmw];rfl) ?_|(refine st_callf (args:=[.slc (c'+1,70) 1 0 11]) rfl rfl (ACalls.frzIn (b:=(c'+1,70)) (k:=⟨1,((lstep S.js x S.js.length).1 ++ x.hands).map iv⟩) (args':=[.lst 1 (((lstep S.js x S.js.length).1 ++ x.hands).map iv)]) (by simp only[go_sem,↓reduceIte] <;> rfl) (by simp only[frzs,hfz]) (c133 _ hes (by simp [hlf,z.hands]) _)) ?_;rintro v h' ⟨⟨n,hn,rfl⟩,rfl⟩)|(refine st_condS rfl ?_ ?_ <;> intro hg <;> (try simp only[dcT,dcF,bnT,bnF] at hg))|refine st_nil ?_|refine st_dnil ?_|refine st_tN ?_|refine st_seq ?_|refine st_skip ?_|refine st_ret ?_)
 all_goals
  have hq:∀ b':Bid,b'.1 < h.clk→¬ b'=(h.clk+1,6)∧¬ b'=(c'+1,70):=fun b' hb'=>⟨fun e=>by rw [e] at hb';exact absurd hb' (by show ¬ h.clk+1 < h.clk;omega),fun e=>by rw [e] at hb';exact absurd hb' (by show ¬ c'+1 < h.clk;omega)⟩
 ·simp (disch:=omega) only[AEnd,Tryz.results102,aresK,fin,go_sem,implies_true,true_and,and_true,List.reverse_cons,List.reverse_nil]
  refine ⟨fun b' hb'=>by simp only[(hq b' hb').1,(hq b' hb').2,if_false],?_⟩
  simp only[leastD]
  rw [if_pos (by omega),aC_take]
  have hA:0≤freeD x S.ws.length+(lstep S.js x S.js.length).2.2+S.ws.length - 1:=by omega
  have hq1:0≤(freeD x S.ws.length+(lstep S.js x S.js.length).2.2+S.ws.length - 1).tdiv S.ws.length:=Int.tdiv_nonneg hA (by omega)
  have hq2:(freeD x S.ws.length+(lstep S.js x S.js.length).2.2+S.ws.length - 1).tdiv S.ws.length≤freeD x S.ws.length+(lstep S.js x S.js.length).2.2+S.ws.length - 1:=Int.tdiv_le_self _ hA
  rw [wr_i64 (by omega)]
 ·simp (disch:=omega) only[AEnd,Tryz.results102,aresK,fin,go_sem,implies_true,true_and,and_true,List.reverse_cons,List.reverse_nil]
  refine ⟨fun b' hb'=>by simp only[(hq b' hb').1,(hq b' hb').2,if_false],?_⟩
  simp only[leastD]
  rw [if_neg (by omega),aC_take]
end Go.Proofs.YtaijkalhkgjakaaGreatDoor

namespace Go.Proofs.YtaijkalhkgjakaaGreatDoor
open Go.Av
attribute [local irreducible] thenA blockA awp awpOps awpD awp1
attribute [local go_sem_proc] Nat.reduceAdd Nat.reduceMul Nat.reduceEqDiff Nat.reduceBEq Nat.reduceLeDiff
attribute [local go_sem_proc ↓] reduceIte
attribute [local go_sem] if_yes if_no
set_option maxHeartbeats 8000000
set_option maxRecDepth 20000
def rowD (S:Sp) (x:Dr) (j w:Nat):List Dr:=(List.range w).filterMap (nextAt S x j)
def preD (S:Sp) (x:Dr) (j w:Nat):List Dr:=(List.range j).flatMap (fun j=>rowD S x j S.ws.length) ++ rowD S x j w
theorem rowD_succ (S:Sp) (x:Dr) (j w:Nat):rowD S x j (w+1)=rowD S x j w ++ (nextAt S x j w).toList:=by
 unfold rowD
 rw [List.range_succ,List.filterMap_append]
 cases h:nextAt S x j w <;> simp [h]
theorem preD_some {S:Sp} {x y:Dr} {j w:Nat} (h:nextAt S x j w=some y):preD S x j (w+1)=preD S x j w ++ [y]:=by
 unfold preD;rw [rowD_succ,h,List.append_assoc];rfl
theorem preD_none {S:Sp} {x:Dr} {j w:Nat} (h:nextAt S x j w=none):preD S x j (w+1)=preD S x j w:=by
 unfold preD;rw [rowD_succ,h];simp
theorem preD_row (S:Sp) (x:Dr) (j:Nat):preD S x (j+1) 0=preD S x j S.ws.length:=by
 unfold preD;rw [List.range_succ,List.flatMap_append];simp [rowD]
theorem preD_end (S:Sp) (x:Dr):preD S x S.js.length 0=nextD S x:=by
 unfold preD nextD;simp [rowD]
theorem rowD_prefix (S:Sp) (x:Dr) (j:Nat):∀ k w,rowD S x j w <+: rowD S x j (w+k):=by
 intro k
 induction k with
 | zero=>intro w;exact List.prefix_refl _
 | succ k ih=>intro w;rw [← Nat.add_assoc,rowD_succ];exact (ih w).trans (List.prefix_append _ _)
theorem preD_pre {S:Sp} {x:Dr} {j w:Nat} (hj:j < S.js.length) (hw:w≤S.ws.length):preD S x j w <+: nextD S x:=by
 have h1:preD S x j w <+: preD S x (j+1) 0:=by
  rw [preD_row]
  unfold preD
  rw [List.prefix_append_right_inj]
  have:=rowD_prefix S x j (S.ws.length - w) w
  rwa [show w+(S.ws.length - w)=S.ws.length by omega] at this
 have h2:∀ k,preD S x (j+1) 0 <+: preD S x (j+1+k) 0:=by
  intro k
  induction k with
  | zero=>exact List.prefix_refl _
  | succ k ih =>
   refine ih.trans ?_
   rw [← Nat.add_assoc,preD_row]
   unfold preD
   rw [List.prefix_append_right_inj]
   simp [rowD]
 have:=h2 (S.js.length - (j+1))
 rw [show j+1+(S.js.length - (j+1))=S.js.length by omega,preD_end] at this
 exact h1.trans this
theorem preD_skip {S:Sp} {x:Dr} {j:Nat} (h:readyD S.js x j=false):preD S x (j+1) 0=preD S x j 0:=by
 rw [preD_row]
 have:∀ w,preD S x j w=preD S x j 0:=by
  intro w
  induction w with
  | zero=>rfl
  | succ w ih=>rw [preD_none (by unfold nextAt;rw [h];rfl),ih]
 exact this _
theorem canI {w:Wk} {s:Int} (hs:1≤s∧s≤3):bitop .and .i64 w.sk (ndI s)=0 ↔ w.can s=false:=by
 have:s=1 ∨ s=2 ∨ s=3:=by omega
 rcases this with rfl|rfl|rfl <;> cases w with|mk a b c=>cases a <;> cases b <;> cases c <;> decide
theorem skI {v w:Wk}:v.sk=w.sk ↔ v=w:=by
 cases v with|mk a b c=>cases w with|mk d e f=>cases a <;> cases b <;> cases c <;> cases d <;> cases e <;> cases f <;> decide
theorem twin_take {S:Sp} {x:Dr} {i k:Nat} (h:∀ j,j < k→¬ (S.wk j=S.wk i∧x.hands.getD j 0=x.hands.getD i 0)) (hk:i≤k):twin S x i=false:=by
 unfold twin
 rw [List.any_eq_false]
 intro j hj
 have:=h j (by have:=List.mem_range.1 hj;omega)
 simpa using this
theorem twin_true {S:Sp} {x:Dr} {i k:Nat} (hk:k < i) (h:S.wk k=S.wk i∧x.hands.getD k 0=x.hands.getD i 0):twin S x i=true:=by
 unfold twin
 rw [List.any_eq_true]
 exact ⟨k,List.mem_range.2 hk,by rw [h.1,h.2];simp⟩
theorem c104 (S:Sp) (x:Dr):Pure Tryz.prog 104 [x.av,S.av] (fun v=>v=.fn (.func 134) [] [.iptr [.lst 3 (S.ws.map Wk.row),.lst 3 (S.js.map Jb.row)] 0,.iptr (dC (ixF x.day) (x.pl:Nat) (ixF x.hands) (ixF x.fls) x.last) 0]):=by
 intro h
 unfold Dr.av
 refine ACalls.forget (ACalls.of tab mixed Tryz.call104 Tryz.func104 rfl (fi:=⟨6,[],[2,3],none,[]⟩) rfl rfl (Nat.le_of_ble_eq_true rfl) (by decide) ?_)
 unfold startA
 try simp only[go_sem]
 repeat' (first|refine st_seq_reg rfl (by first|(simp only[go_sem];rfl)|rfl) (by first|(simp only[go_sem];rfl)|rfl) ?_|refine st_op ?_|refine st_det rfl (by simp (disch:=omega) only[go_sem,wr_i64];rfl) ?_|refine st_nil ?_|refine st_ret ?_)
 simp (disch:=omega) only[AEnd,Tryz.results104,aresK,fin,go_sem,implies_true,true_and,and_true,List.reverse_cons,List.reverse_nil]
theorem c134 (S:Sp) (x:Dr) (l:Nat) (hS:S.Ok) (z:x.Sz S) (b:x.Bd 1000) (I:List Dr→AH→Prop) (hI:∀ p g n,I p g→g.clk≤n→I p (g.tick n)) (hG:∀ p g,I p g→g.gl=gB)
  (hy:∀ p y g,p ++ [y] <+: nextD S x→I p g→AYields Tryz.prog l [y.av] g (fun v h'=>v=.bool true∧I (p ++ [y]) h')) (h:AH) (h0:I [] h) :
  ACalls Tryz.prog 134 [.fn (.yield l) [] [],.iptr [.lst 3 (S.ws.map Wk.row),.lst 3 (S.js.map Jb.row)] 0,.iptr (dC (ixF x.day) (x.pl:Nat) (ixF x.hands) (ixF x.fls) x.last) 0] h (fun _ h'=>I (nextD S x) h'):=by
 have h7:=hS.n7
 have h4:=hS.m4
 have hp:x.pl < 128:=Nat.lt_of_lt_of_le z.pl (Nat.pow_le_pow_right (by omega:0 < 2) h7)
 refine ACalls.of tab mixed Tryz.call134 Tryz.func134 rfl (fi:=⟨84,[6,8,9],[],none,[(7,[0,1,0,4,0,28,60,127,255,511],[(0,true),(2,false),(3,true),(4,false),(5,false),(6,true),(1,false),(7,false),(8,false),(9,false)]),(11,[0,1,0,7,15,31,63,63,255,511,63,63,3135,7231,16383,32767],[(0,true),(2,true),(1,false),(3,false),(4,false),(5,false),(6,false),(7,false),(8,false),(9,true),(10,false),(11,false),(12,false),(13,true),(14,false),(15,false)])]⟩) rfl rfl (Nat.le_of_ble_eq_true rfl) (by decide) ?_
 unfold startA
 try simp only[go_sem]
 repeat' (first|refine st_seq_reg rfl (by first|(simp only[go_sem];rfl)|rfl) (by first|(simp only[go_sem];rfl)|rfl) ?_|refine st_op ?_|refine st_det rfl (by simp (disch:=omega) only[go_sem,wr_i64];rfl) ?_|refine st_nil ?_|refine st_block ?_)
 refine st_loopH (α:=Nat × AH) tab mixed [] [] (by repeat (first|exact trivial|refine ⟨rfl,?_⟩)) [] [] (by repeat (first|exact trivial|refine ⟨rfl,?_⟩)) (fun a=>[(13,.int .i64 a.1)]) [(0,_),(1,_),(2,_),(11,_),(12,_)] (fun _=>[]) [] (fun a=>a.2) (fun a=>a.1≤S.js.length∧I (preD S x a.1 0) a.2) (fun a=>S.js.length - a.1) (by decide) (0,h) ⟨Nat.zero_le _,h0⟩ (by (try simp only[go_sem]);repeat' (first|exact trivial|refine And.intro ?_ ?_|rfl|(simp (disch:=omega) only[go_sem,if_yes,if_no,if_no];rfl)|(simp (disch:=omega) only[go_sem,if_yes,if_no,if_no]))) (by (try simp only[go_sem]);repeat' (first|exact trivial|refine And.intro ?_ ?_|rfl|(simp (disch:=omega) only[go_sem,if_yes,if_no,if_no];rfl)|(simp (disch:=omega) only[go_sem,if_yes,if_no,if_no]))) (HOld.tick (by simp only[go_sem];omega)) ?_
 rintro ⟨j,g⟩ c ⟨hj,hi⟩ hc
 dsimp only at hj hi hc
 have hgl:=hG _ _ hi
 simp only[go_sem]
 repeat' (first|refine st_seq_reg rfl (by first|(simp only[go_sem,dC_take];rfl)|rfl) (by first|(simp only[go_sem,dC_take];rfl)|rfl) ?_|refine st_reg rfl (by first|(simp only[go_sem,dC_take];rfl)|rfl) (by first|(simp only[go_sem,dC_take];rfl)|rfl) ?_|refine st_op ?_|refine st_det rfl (by simp (disch:=omega) only[go_sem,wr_i64,dC_take];rfl) ?_|(refine st_pureE (by first|(simp (disch:=omega) only[go_sem,dC_take];rfl)|rfl) rfl (c135 S x j hp (by omega) h7) (by first|(simp only[go_sem,dC_take];rfl)|rfl) (by intro n;first|(simp (disch:=omega) only[go_sem];rfl)|rfl) ?_;intro n hn)|(refine st_condS rfl ?_ ?_ <;> intro hg <;> (try simp only[dcT,dcF,bnT,bnF] at hg))|refine st_nil ?_|refine st_tN ?_|refine st_seq ?_|refine st_block ?_|refine st_skip ?_|refine st_exit ?_|refine st_tE ?_|refine st_bH ?_|refine st_label ?_|refine st_scope tab mixed (by decide) ?_)
 ·refine ⟨(j+1,g),⟨by show j+1≤S.js.length;omega,by rw [preD_skip hg];exact hi⟩,by show S.js.length - (j+1) < S.js.length - j;omega,(by repeat' (first|exact trivial|refine And.intro ?_ ?_|rfl|(simp (disch:=omega) only[go_sem,if_yes,if_no,if_no];rfl)|(simp (disch:=omega) only[go_sem,if_yes,if_no,if_no]))),(by repeat' (first|exact trivial|refine And.intro ?_ ?_|rfl|(simp (disch:=omega) only[go_sem,if_yes,if_no,if_no];rfl)|(simp (disch:=omega) only[go_sem,if_yes,if_no,if_no]))),rfl,HOld.tick (by show g.clk≤_;omega)⟩
 ·refine st_loopH (α:=Nat × AH) tab mixed [] [] (by repeat (first|exact trivial|refine ⟨rfl,?_⟩)) [] [] (by repeat (first|exact trivial|refine ⟨rfl,?_⟩)) (fun a=>[(24,.int .i64 a.1)]) [(0,_),(1,_),(2,_),(4,_),(11,_),(12,_),(13,_),(22,_),(23,_)] (fun _=>[]) [] (fun a=>a.2) (fun a=>a.1≤S.ws.length∧I (preD S x j a.1) a.2) (fun a=>S.ws.length - a.1) (by decide) (0,g) ⟨Nat.zero_le _,hi⟩ (by (try simp only[go_sem]);repeat' (first|exact trivial|refine And.intro ?_ ?_|rfl|(simp (disch:=omega) only[go_sem,if_yes,if_no,if_no];rfl)|(simp (disch:=omega) only[go_sem,if_yes,if_no,if_no]))) (by (try simp only[go_sem]);repeat' (first|exact trivial|refine And.intro ?_ ?_|rfl|(simp (disch:=omega) only[go_sem,if_yes,if_no,if_no];rfl)|(simp (disch:=omega) only[go_sem,if_yes,if_no,if_no]))) (HOld.tick (by show g.clk≤_;omega)) ?_
  rintro ⟨i,g1⟩ c1 ⟨hiw,hi1⟩ hc1
  dsimp only at hiw hi1 hc1
  clear hgl
  have hgl:=hG _ _ hi1
  have hjk:(jOf S.js j).Ok:=hS.j (show j < S.js.length by omega)
  have hs13:1≤(jOf S.js j).s∧(jOf S.js j).s≤3:=⟨hjk.2.2.1,hjk.2.2.2.1⟩
  simp only[go_sem]
  repeat' (first|refine st_seq_reg rfl (by first|(simp only[go_sem,dC_take];rfl)|rfl) (by first|(simp only[go_sem,dC_take];rfl)|rfl) ?_|refine st_reg rfl (by first|(simp only[go_sem,dC_take];rfl)|rfl) (by first|(simp only[go_sem,dC_take];rfl)|rfl) ?_|refine st_seq_draw rfl (by first|(simp only[go_sem,dC_take];rfl)|rfl) (by first|(simp only[go_sem,dC_take];rfl)|rfl) ?_|refine st_op ?_|refine st_det rfl (by simp (disch:=omega) only[go_sem,wr_i64,dC_take];rfl) ?_|refine st_dop rfl ?_|refine st_loc rfl (by simp (disch:=omega) only[go_sem,wr_i64,dC_take];rfl) ?_|refine st_store (by simp (disch:=omega) only[go_sem,wr_i64,dC_take];rfl) ?_|(refine st_pureE (by first|(simp (disch:=omega) only[go_sem,dC_take];rfl)|rfl) rfl (c74 (wOf S.ws i)) (by first|(simp only[go_sem,dC_take];rfl)|rfl) (by intro n;first|(simp (disch:=omega) only[go_sem];rfl)|rfl) ?_;intro n hn)|(refine st_pureGE (by first|(simp (disch:=omega) only[go_sem,dC_take];rfl)|rfl) rfl (c73 (jOf S.js j) hs13) (by exact hgl) (by first|(simp only[go_sem,dC_take];rfl)|rfl) (by intro n;first|(simp (disch:=omega) only[go_sem];rfl)|rfl) ?_;intro n hn)|(refine st_condS rfl ?_ ?_ <;> intro hg <;> (try simp only[dcT,dcF,bnT,bnF] at hg))|refine st_nil ?_|refine st_dnil ?_|refine st_tN ?_|refine st_seq ?_|refine st_block ?_|refine st_skip ?_|refine st_exit ?_|refine st_tE ?_|refine st_bN ?_|refine st_bH ?_)
  ·have hno:nextAt S x j i=none:=by
    have hc:(S.wk i).can (S.j j).s=false:=(canI hs13).1 hg
    unfold nextAt;rw [hc];simp
   refine ⟨(i+1,g1),⟨by show i+1≤S.ws.length;omega,by rw [preD_none hno];exact hi1⟩,by show S.ws.length - (i+1) < S.ws.length - i;omega,(by repeat' (first|exact trivial|refine And.intro ?_ ?_|rfl|(simp (disch:=omega) only[go_sem,if_yes,if_no,if_no];rfl)|(simp (disch:=omega) only[go_sem,if_yes,if_no,if_no]))),(by repeat' (first|exact trivial|refine And.intro ?_ ?_|rfl|(simp (disch:=omega) only[go_sem,if_yes,if_no,if_no];rfl)|(simp (disch:=omega) only[go_sem,if_yes,if_no,if_no]))),rfl,HOld.tick (by show g1.clk≤_;omega)⟩
  ·have hcan:(S.wk i).can (S.j j).s=true:=by
    cases hc:(S.wk i).can (S.j j).s with
    | true=>rfl
    | false=>exact absurd ((canI hs13).2 hc) hg
   have hsl:List.take (i - Int.toNat 0) (List.drop (Int.toNat 0) (S.ws.map Wk.row))=(S.ws.take i).map Wk.row:=by simp [List.map_take]
   have hln:(S.ws.take i).length=i:=by rw [List.length_take];omega
   have hwk:∀ k,k < i→wOf (S.ws.take i) k=wOf S.ws k:=fun k hk=>by simp [wOf,List.getD_eq_getElem?_getD,List.getElem?_take,hk]
   simp only[hsl,Lm,hln]
   refine st_loopH (α:=Nat) tab mixed [] [] (by repeat (first|exact trivial|refine ⟨rfl,?_⟩)) [6] [_] (by repeat (first|exact trivial|refine ⟨rfl,?_⟩)) (fun k=>[(44,.int .i64 k)]) [(0,_),(1,_),(2,_),(4,_),(5,_),(6,_),(11,_),(12,_),(13,_),(22,_),(23,_),(24,_),(42,_),(43,_)] (fun _=>[]) [_] (fun _=>g1) (fun k=>k≤i∧∀ q,q < k→¬ (S.wk q=S.wk i∧x.hands.getD q 0=x.hands.getD i 0)) (fun k=>i - k) (by decide) 0 ⟨Nat.zero_le _,fun q hq=>absurd hq (Nat.not_lt_zero _)⟩ (by (try simp only[go_sem]);repeat' (first|exact trivial|refine And.intro ?_ ?_|rfl|(simp (disch:=omega) only[go_sem,if_yes,if_no,if_no];rfl)|(simp (disch:=omega) only[go_sem,if_yes,if_no,if_no]))) (by (try simp only[go_sem]);repeat' (first|exact trivial|refine And.intro ?_ ?_|rfl|(simp (disch:=omega) only[go_sem,if_yes,if_no,if_no];rfl)|(simp (disch:=omega) only[go_sem,if_yes,if_no,if_no]))) (HOld.tick (by omega)) ?_
   rintro k c2 ⟨hki,hnt⟩ hc2
   simp only[go_sem]
   repeat' (first|refine st_seq_reg rfl (by first|(simp only[go_sem,dC_take,hwk,hln,Nat.mul_one,Nat.zero_add];rfl)|rfl) (by first|(simp only[go_sem,dC_take,hwk,hln,Nat.mul_one,Nat.zero_add];rfl)|rfl) ?_|refine st_reg rfl (by first|(simp only[go_sem,dC_take,hwk,hln,Nat.mul_one,Nat.zero_add];rfl)|rfl) (by first|(simp only[go_sem,dC_take,hwk,hln,Nat.mul_one,Nat.zero_add];rfl)|rfl) ?_|refine st_seq_draw rfl (by first|(simp only[go_sem,dC_take,hwk,hln,Nat.mul_one,Nat.zero_add];rfl)|rfl) (by first|(simp only[go_sem,dC_take,hwk,hln,Nat.mul_one,Nat.zero_add];rfl)|rfl) ?_|refine st_op ?_|refine st_det rfl (by simp (disch:=omega) only[go_sem,wr_i64,dC_take,hwk,hln,Nat.mul_one,Nat.zero_add];rfl) ?_|refine st_dop rfl ?_|refine st_loc rfl (by simp (disch:=omega) only[go_sem,wr_i64,dC_take,hwk,hln,Nat.mul_one,Nat.zero_add];rfl) ?_|refine st_store (by simp (disch:=omega) only[go_sem,wr_i64,dC_take,hwk,hln,Nat.mul_one,Nat.zero_add];rfl) ?_|(refine st_pureE (by first|(simp (disch:=omega) only[go_sem,dC_take,hwk,hln,Nat.mul_one,Nat.zero_add];rfl)|rfl) rfl (c74 (wOf S.ws k)) (by first|(simp only[go_sem,dC_take,hwk,hln,Nat.mul_one,Nat.zero_add];rfl)|rfl) (by intro n;first|(simp (disch:=omega) only[go_sem];rfl)|rfl) ?_;intro n hn)|(refine st_pureE (by first|(simp (disch:=omega) only[go_sem,dC_take,hwk,hln,Nat.mul_one,Nat.zero_add];rfl)|rfl) rfl (c74 (wOf S.ws i)) (by first|(simp only[go_sem,dC_take,hwk,hln,Nat.mul_one,Nat.zero_add];rfl)|rfl) (by intro n;first|(simp (disch:=omega) only[go_sem];rfl)|rfl) ?_;intro n hn)|refine st_dgT rfl rfl rfl rfl ?_|refine st_dgF rfl rfl rfl ?_|(refine st_dgS rfl rfl ?_ ?_ <;> intro hg <;> (try simp only[dcT,dcF,bnT,bnF] at hg))|refine st_condF rfl ?_|(refine st_condS rfl ?_ ?_ <;> intro hg <;> (try simp only[dcT,dcF,bnT,bnF] at hg))|refine st_nil ?_|refine st_dnil ?_|refine st_tN ?_|refine st_seq ?_|refine st_block ?_|refine st_skip ?_|refine st_exit ?_|refine st_tE ?_|refine st_bN ?_|refine st_bH ?_|refine st_bM rfl ?_)
   ·have hno:nextAt S x j i=none:=by
     have ht:twin S x i=true:=twin_true (k:=k) (by omega) ⟨skI.1 (by assumption),hg⟩
     unfold nextAt;rw [ht];simp
    refine ⟨(i+1,g1),⟨by show i+1≤S.ws.length;omega,by rw [preD_none hno];exact hi1⟩,by show S.ws.length - (i+1) < S.ws.length - i;omega,(by repeat' (first|exact trivial|refine And.intro ?_ ?_|rfl|(simp (disch:=omega) only[go_sem,if_yes,if_no,if_no];rfl)|(simp (disch:=omega) only[go_sem,if_yes,if_no,if_no]))),(by repeat' (first|exact trivial|refine And.intro ?_ ?_|rfl|(simp (disch:=omega) only[go_sem,if_yes,if_no,if_no];rfl)|(simp (disch:=omega) only[go_sem,if_yes,if_no,if_no]))),rfl,HOld.tick (by show g1.clk≤_;omega)⟩
   ·have hnt2:∀ q,q < k+1→¬ (S.wk q=S.wk i∧x.hands.getD q 0=x.hands.getD i 0):=by
     intro q hq
     by_cases e:q=k
     ·subst e;exact fun h2=>hg h2.2
     ·exact hnt q (by omega)
    refine ⟨k+1,⟨by omega,hnt2⟩,by omega,(by repeat' (first|exact trivial|refine And.intro ?_ ?_|rfl|(simp (disch:=omega) only[go_sem,if_yes,if_no,if_no];rfl)|(simp (disch:=omega) only[go_sem,if_yes,if_no,if_no]))),(by repeat' (first|exact trivial|refine And.intro ?_ ?_|rfl|(simp (disch:=omega) only[go_sem,if_yes,if_no,if_no];rfl)|(simp (disch:=omega) only[go_sem,if_yes,if_no,if_no]))),rfl,HOld.tick (by omega)⟩
   ·have hnt2:∀ q,q < k+1→¬ (S.wk q=S.wk i∧x.hands.getD q 0=x.hands.getD i 0):=by
     intro q hq
     by_cases e:q=k
     ·subst e;exact fun h2=>hg (skI.2 h2.1)
     ·exact hnt q (by omega)
    refine ⟨k+1,⟨by omega,hnt2⟩,by omega,(by repeat' (first|exact trivial|refine And.intro ?_ ?_|rfl|(simp (disch:=omega) only[go_sem,if_yes,if_no,if_no];rfl)|(simp (disch:=omega) only[go_sem,if_yes,if_no,if_no]))),(by repeat' (first|exact trivial|refine And.intro ?_ ?_|rfl|(simp (disch:=omega) only[go_sem,if_yes,if_no,if_no];rfl)|(simp (disch:=omega) only[go_sem,if_yes,if_no,if_no]))),rfl,HOld.tick (by omega)⟩
   ·have ht:twin S x i=false:=twin_take hnt (by omega)
    have hrd:readyD S.js x j=true:=by assumption
    have hnx:nextAt S x j i=if decide (x.last≤(withD S.js x j i).last) then some (withD S.js x j i) else none:=by
     unfold nextAt;rw [hrd,hcan,ht];simp
    have hw121:=c136 S x j i hS z (by omega) (by omega) b.h b.f
    generalize withD S.js x j i=y at hnx hw121
    have hw2:Pure Tryz.prog 136 [x.av,S.av,.int .i64 j,.int .i64 i] (fun v=>v=.agg (dC (ixF y.day) (y.pl:Nat) (ixF y.hands) (ixF y.fls) y.last)):=hw121
    have hpre:x.last≤y.last→preD S x j i ++ [y] <+: nextD S x:=fun hle=>by
     have h1:nextAt S x j i=some y:=by rw [hnx];simp [hle]
     rw [← preD_some h1]
     exact preD_pre (by omega) (by omega)
    repeat' (first|refine st_seq_reg rfl (by first|(simp only[go_sem,dC_take,List.append_nil];rfl)|rfl) (by first|(simp only[go_sem,dC_take,List.append_nil];rfl)|rfl) ?_|refine st_reg rfl (by first|(simp only[go_sem,dC_take,List.append_nil];rfl)|rfl) (by first|(simp only[go_sem,dC_take,List.append_nil];rfl)|rfl) ?_|refine st_op ?_|refine st_det rfl (by simp (disch:=omega) only[go_sem,wr_i64,dC_take,List.append_nil];rfl) ?_|refine st_loc rfl (by simp (disch:=omega) only[go_sem,wr_i64,dC_take,List.append_nil];rfl) ?_|refine st_store (by simp (disch:=omega) only[go_sem,wr_i64,dC_take,List.append_nil];rfl) ?_|(refine st_pureE (by first|(simp (disch:=omega) only[go_sem,dC_take,List.append_nil];rfl)|rfl) rfl (hw2) (by first|(simp only[go_sem,dC_take,List.append_nil];rfl)|rfl) (by intro n;first|(simp (disch:=omega) only[go_sem];rfl)|rfl) ?_;intro n hn)|(refine st_yield rfl (by first|(simp (disch:=omega) only[go_sem];rfl)|(simp (disch:=omega) only[go_sem])) rfl (hy (preD S x j i) y _ (hpre hg) (hI _ _ _ hi1 (by omega))) ?_;rintro v h' ⟨rfl,hi2⟩)|refine st_gT rfl rfl rfl ?_|refine st_gF rfl rfl rfl ?_|(refine st_gS rfl rfl ?_ ?_ <;> intro hg <;> (try simp only[dcT,dcF,bnT,bnF] at hg))|refine st_condF rfl ?_|refine st_nil ?_|refine st_tN ?_|refine st_skip ?_|refine st_bN ?_)
    ·have h1:nextAt S x j i=some y:=by rw [hnx];simp [hg]
     refine ⟨(i+1,h'),⟨by show i+1≤S.ws.length;omega,by rw [preD_some h1];exact hi2⟩,by show S.ws.length - (i+1) < S.ws.length - i;omega,(by repeat' (first|exact trivial|refine And.intro ?_ ?_|rfl|(simp (disch:=omega) only[go_sem,if_yes,if_no,if_no];rfl)|(simp (disch:=omega) only[go_sem,if_yes,if_no,if_no]))),(by repeat' (first|exact trivial|refine And.intro ?_ ?_|rfl|(simp (disch:=omega) only[go_sem,if_yes,if_no,if_no];rfl)|(simp (disch:=omega) only[go_sem,if_yes,if_no,if_no]))),rfl,HOld.tick (Nat.le_succ _)⟩
    ·have h1:nextAt S x j i=none:=by rw [hnx];simp [hg]
     refine ⟨(i+1,g1),⟨by show i+1≤S.ws.length;omega,by rw [preD_none h1];exact hi1⟩,by show S.ws.length - (i+1) < S.ws.length - i;omega,(by repeat' (first|exact trivial|refine And.intro ?_ ?_|rfl|(simp (disch:=omega) only[go_sem,if_yes,if_no,if_no];rfl)|(simp (disch:=omega) only[go_sem,if_yes,if_no,if_no]))),(by repeat' (first|exact trivial|refine And.intro ?_ ?_|rfl|(simp (disch:=omega) only[go_sem,if_yes,if_no,if_no];rfl)|(simp (disch:=omega) only[go_sem,if_yes,if_no,if_no]))),rfl,HOld.tick (by show g1.clk≤_;omega)⟩
  ·have e:i=S.ws.length:=by omega
   subst e
   refine ⟨(j+1,g1),⟨by show j+1≤S.js.length;omega,by rw [preD_row];exact hi1⟩,by show S.js.length - (j+1) < S.js.length - j;omega,(by repeat' (first|exact trivial|refine And.intro ?_ ?_|rfl|(simp (disch:=omega) only[go_sem,if_yes,if_no,if_no];rfl)|(simp (disch:=omega) only[go_sem,if_yes,if_no,if_no]))),(by repeat' (first|exact trivial|refine And.intro ?_ ?_|rfl|(simp (disch:=omega) only[go_sem,if_yes,if_no,if_no];rfl)|(simp (disch:=omega) only[go_sem,if_yes,if_no,if_no]))),rfl,HOld.tick (by show g1.clk≤_;omega)⟩
 ·simp (disch:=omega) only[AEnd,Tryz.results134,aresK,fin,go_sem,implies_true,true_and,and_true,List.reverse_cons,List.reverse_nil]
  have e:j=S.js.length:=by omega
  subst e
  rw [preD_end] at hi
  exact hI _ _ _ hi (by omega)
end Go.Proofs.YtaijkalhkgjakaaGreatDoor
