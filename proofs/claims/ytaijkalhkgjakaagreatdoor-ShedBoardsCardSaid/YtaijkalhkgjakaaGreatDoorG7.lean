/- Contracts of functions that the claim reaches: what each call gives, told in our own logic. Conditions: those of each theorem. -/
import Derived.Test.YtaijkalhkgjakaaGreatDoorG4
import Derived.Test.YtaijkalhkgjakaaGreatDoorF1
import Derived.Test.YtaijkalhkgjakaaGreatDoorP6
import Derived.Test.YtaijkalhkgjakaaGreatDoorBaseD
open List (length_map)
set_option linter.all false
set_option linter.unusedSimpArgs false
set_option linter.unusedVariables false
namespace Go.Proofs.YtaijkalhkgjakaaGreatDoor
open Go.Av
attribute [local irreducible] thenA blockA awp awpOps awpD awp1
attribute [local go_sem_proc] Nat.reduceAdd Nat.reduceMul Nat.reduceEqDiff Nat.reduceBEq Nat.reduceLeDiff
attribute [local go_sem_proc ↓] reduceIte
attribute [local go_sem] if_yes if_no
set_option maxHeartbeats 8000000
set_option maxRecDepth 20000
theorem Dr.av_with {S:Sp} {x:Dr} (z:x.Sz S) {j w:Nat} (hw:w < 4) (hj:j < 7) (hf:(jOf S.js j).f.toNat < 7) :
  (withD S.js x j w).av=.agg (dC (upd (ixF x.day) j (withD S.js x j w).last) ((x.pl ||| 2 ^ j:Nat):Int) (upd (ixF x.hands) w ((withD S.js x j w).last+(jOf S.js j).d)) (upd (ixF x.fls) (jOf S.js j).f.toNat ((withD S.js x j w).last+(jOf S.js j).d)) (withD S.js x j w).last):=by
 unfold Dr.av
 rw [← ixF_set (by rw [z.day];exact hj),← ixF_set (by rw [z.hands];exact hw),← ixF_set (by rw [z.fls];exact hf)]
 rfl
theorem c136 (S:Sp) (x:Dr) (j w:Nat) (hS:S.Ok) (z:x.Sz S) (hj:j < S.js.length) (hw:w < S.ws.length) (hl:∀ i,0≤x.hands.getD i 0∧x.hands.getD i 0≤1000) (hf:∀ i,0≤x.fls.getD i 0∧x.fls.getD i 0≤1000) :
  Pure Tryz.prog 136 [x.av,S.av,.int .i64 j,.int .i64 w] (fun v=>v=(withD S.js x j w).av):=by
 have h7:=hS.n7
 have h4:=hS.m4
 have hjk:(jOf S.js j).Ok:=hS.j hj
 unfold Jb.Ok at hjk
 have hp:x.pl < 128:=Nat.lt_of_lt_of_le z.pl (Nat.pow_le_pow_right (by omega:0 < 2) h7)
 have hw4:w < 4:=by omega
 have hf7:(jOf S.js j).f.toNat < 7:=by omega
 have hb1:0≤ixF x.hands w∧ixF x.hands w≤1000:=hl w
 have hb2:0≤ixF x.fls (jOf S.js j).f.toNat∧ixF x.fls (jOf S.js j).f.toNat≤1000:=hf _
 rw [Dr.av_with z hw4 (by omega) hf7]
 have hlast:(withD S.js x j w).last=max (ixF x.hands w) (ixF x.fls (jOf S.js j).f.toNat):=rfl
 rw [hlast]
 have hput:=putI hp (show j < 7 by omega)
 intro h
 unfold Dr.av
 refine ACalls.forget (ACalls.of tab mixed Tryz.call136 Tryz.func136 rfl (fi:=⟨55,[8,9],[5],none,[(2,[0,0,3,7,0,16,0,112,240,511,1023,2047],[(0,false),(1,false),(2,false),(3,false),(4,false),(5,true),(6,false),(7,false),(8,false),(9,false),(10,false),(11,false)]),(4,[0,0,2,0,8,0,32,120,0,256,0,1024,3840,0,9209,25593,0,131071,262143],[(0,false),(1,false),(2,true),(3,false),(4,false),(5,false),(6,true),(7,false),(8,false),(9,false),(10,false),(11,true),(12,false),(13,false),(14,false),(16,false),(15,true),(17,false),(18,true)]),(5,[0,1,0,4,15,31,63],[(0,false),(1,false),(2,false),(3,false),(4,false),(5,false),(6,false)])]⟩) rfl rfl (Nat.le_of_ble_eq_true rfl) (by decide) ?_)
 unfold startA
 try simp only[go_sem]
 repeat' (first|refine st_seq_reg rfl (by first|(simp only[go_sem,hput,Nat.mul_one,Nat.zero_add,List.append_nil];rfl)|rfl) (by first|(simp only[go_sem,hput,Nat.mul_one,Nat.zero_add,List.append_nil];rfl)|rfl) ?_|refine st_seq_draw rfl (by first|(simp only[go_sem,hput,Nat.mul_one,Nat.zero_add,List.append_nil];rfl)|rfl) (by first|(simp only[go_sem,hput,Nat.mul_one,Nat.zero_add,List.append_nil];rfl)|rfl) ?_|refine st_op ?_|refine st_det rfl (by simp (disch:=omega) only[go_sem,wr_i64,hput,Nat.mul_one,Nat.zero_add,List.append_nil];rfl) ?_|refine st_dop rfl ?_|refine st_loc rfl (by simp (disch:=omega) only[go_sem,wr_i64,hput,Nat.mul_one,Nat.zero_add,List.append_nil];rfl) ?_|refine st_heap rfl (by simp (disch:=omega) only[go_sem,wr_i64,hput,Nat.mul_one,Nat.zero_add,List.append_nil];rfl) ?_|refine st_store (by simp (disch:=omega) only[go_sem,wr_i64,hput,Nat.mul_one,Nat.zero_add,List.append_nil];rfl) ?_|refine st_nil ?_|refine st_dnil ?_|refine st_ret ?_)
 simp (disch:=omega) only[AEnd,Tryz.results136,aresK,fin,go_sem,implies_true,true_and,and_true,List.reverse_cons,List.reverse_nil]
 exact fun b hb=>if_neg (fun e=>by rw [e] at hb;exact absurd hb (Nat.lt_irrefl _))
end Go.Proofs.YtaijkalhkgjakaaGreatDoor

namespace Go.Proofs.YtaijkalhkgjakaaGreatDoor
open Go.Av
attribute [local irreducible] thenA blockA awp awpOps awpD awp1
attribute [local go_sem_proc] Nat.reduceAdd Nat.reduceMul Nat.reduceEqDiff Nat.reduceBEq Nat.reduceLeDiff
attribute [local go_sem_proc ↓] reduceIte
attribute [local go_sem] if_yes if_no
set_option maxHeartbeats 8000000
set_option maxRecDepth 20000
theorem c109 (a:Int):Pure Tryz.prog 109 [.int .i64 a] (fun v=>v=.bool false):=by
 intro h
 refine ACalls.forget (ACalls.of tab mixed Tryz.call109 Tryz.func109 rfl (fi:=⟨6,[],[],none,[]⟩) rfl rfl (Nat.le_of_ble_eq_true rfl) (by decide) ?_)
 unfold startA
 repeat' (first|refine st_seq_reg rfl (by first|(simp only[go_sem];rfl)|rfl) (by first|(simp only[go_sem];rfl)|rfl) ?_|refine st_op ?_|refine st_det rfl (by simp (disch:=omega) only[go_sem,wr_i64];rfl) ?_|refine st_nil ?_|refine st_ret ?_)
 simp (disch:=omega) only[AEnd,Tryz.results109,aresK,fin,go_sem,implies_true,true_and,and_true,List.reverse_cons,List.reverse_nil]
 simp
def cmpI (a b:Int):Int:=if a < b then -1 else if a > b then 1 else 0
theorem cmpI_0 {a b:Int} (h:cmpI a b=0):¬ a < b∧¬ a > b:=by
 unfold cmpI at h
 split at h
 ·omega
 ·split at h
  ·omega
  ·exact ⟨by assumption,by assumption⟩
theorem c76 (a b:Int):Pure Tryz.prog 76 [.int .i64 a,.int .i64 b] (fun v=>v=.int .i64 (cmpI a b)):=by
 intro h
 refine ACalls.forget (ACalls.of tab mixed Tryz.call76 Tryz.func76 rfl (fi:=⟨20,[],[],none,[]⟩) rfl rfl (Nat.le_of_ble_eq_true rfl) (by decide) ?_)
 unfold startA
 repeat' (first|refine st_seq_reg rfl (by first|(simp only[go_sem];rfl)|rfl) (by first|(simp only[go_sem];rfl)|rfl) ?_|refine st_op ?_|refine st_det rfl (by simp (disch:=omega) only[go_sem,wr_i64];rfl) ?_|(refine st_pureE (by first|(simp (disch:=omega) only[go_sem];rfl)|rfl) rfl (c109 _) (by first|(simp only[go_sem];rfl)|rfl) (by intro n;first|(simp (disch:=omega) only[go_sem];rfl)|rfl) ?_;intro n hn)|refine st_condF rfl ?_|(refine st_condS rfl ?_ ?_ <;> intro hg <;> (try simp only[dcT,dcF,bnT,bnF] at hg))|refine st_nil ?_|refine st_tN ?_|refine st_seq ?_|refine st_skip ?_|refine st_ret ?_|refine st_tR ?_)
 ·simp (disch:=omega) only[AEnd,Tryz.results76,aresK,fin,go_sem,implies_true,true_and,and_true,List.reverse_cons,List.reverse_nil]
  unfold cmpI;rw [if_pos (by omega)]
 ·simp (disch:=omega) only[AEnd,Tryz.results76,aresK,fin,go_sem,implies_true,true_and,and_true,List.reverse_cons,List.reverse_nil]
  unfold cmpI;rw [if_neg (by omega),if_pos (by omega)]
 ·simp (disch:=omega) only[AEnd,Tryz.results76,aresK,fin,go_sem,implies_true,true_and,and_true,List.reverse_cons,List.reverse_nil]
  unfold cmpI;rw [if_neg (by omega),if_neg (by omega)]
def cmpL:List Int→List Int→Int
 | [],[]=>0
 | [],_ :: _=>-1
 | _ :: _,[]=>1
 | a :: l,b :: k=>if a < b then -1 else if a > b then 1 else cmpL l k
theorem cmpL_lex:∀ (a b:List Int),0≤cmpL a b ↔ lexLt a b=false
 | [],[]=>by simp [cmpL,lexLt]
 | [],_ :: _=>by simp [cmpL,lexLt]
 | _ :: _,[]=>by simp [cmpL,lexLt]
 | a :: l,b :: k=>by
  have e1:cmpL (a :: l) (b :: k)=if a < b then -1 else if a > b then 1 else cmpL l k:=rfl
  have e2:lexLt (a :: l) (b :: k)=if a=b then lexLt l k else decide (a < b):=rfl
  rw [e1,e2]
  by_cases h1:a < b
  ·rw [if_pos h1,if_neg (by omega)];simp [h1]
  ·rw [if_neg h1]
   by_cases h2:a > b
   ·rw [if_pos h2,if_neg (by omega)];simp;omega
   ·have e:a=b:=by omega
    subst e
    rw [if_neg h2,if_pos rfl]
    exact cmpL_lex l k
theorem cmpL_drop {a b:List Int} {i:Nat} (ha:i < a.length) (hb:i < b.length):cmpL (a.drop i) (b.drop i)=if a.getD i 0 < b.getD i 0 then -1 else if a.getD i 0 > b.getD i 0 then 1 else cmpL (a.drop (i+1)) (b.drop (i+1)):=by
 rw [drop_getD 0 ha,drop_getD 0 hb];rfl
def mxN (es:List Int):Nat→Int
 | 0=>es.getD 0 0
 | i+1=>max (mxN es i) (es.getD (i+1) 0)
theorem mxN_take {es:List Int}:∀ i,i < es.length→mxN es i=maxL (es.take (i+1)):=by
 intro i
 induction i with
 | zero=>intro h;cases es with
  | nil=>simp at h
  | cons a l=>simp [mxN,maxL]
 | succ i ih =>
  intro h
  rw [mxN,ih (by omega)]
  cases es with
  | nil=>simp at h
  | cons a l =>
   have hi:i < l.length:=by simpa using h
   simp only[List.take_succ_cons,maxL]
   rw [List.take_succ_eq_append_getElem hi,List.foldl_append]
   simp [List.getD_eq_getElem?_getD,hi]
theorem c133 (es:List Int) (h0:es ≠ []) (hl:(es.length:Int) < 1000000):Pure Tryz.prog 133 [.lst 1 (es.map iv)] (fun v=>v=.int .i64 (maxL es)):=by
 have h1:0 < es.length:=List.length_pos_iff.2 h0
 intro h
 refine ACalls.forget (ACalls.of tab mixed Tryz.call133 Tryz.func133 rfl (fi:=⟨25,[],[],none,[]⟩) rfl rfl (Nat.le_of_ble_eq_true rfl) (by decide) ?_)
 unfold startA
 repeat' (first|refine st_seq_reg rfl (by first|(simp only[go_sem];rfl)|rfl) (by first|(simp only[go_sem];rfl)|rfl) ?_|refine st_reg rfl (by first|(simp only[go_sem];rfl)|rfl) (by first|(simp only[go_sem];rfl)|rfl) ?_|refine st_op ?_|refine st_det rfl (by simp (disch:=omega) only[go_sem,wr_i64];rfl) ?_|(refine st_condS rfl ?_ ?_ <;> intro hg <;> (try simp only[dcT,dcF,bnT,bnF] at hg))|refine st_nil ?_|refine st_tN ?_|refine st_seq ?_|refine st_block ?_|refine st_skip ?_)
 all_goals try (exfalso;omega)
 refine st_loopC (α:=Nat) tab mixed [] [] (by repeat (first|exact trivial|refine ⟨rfl,?_⟩)) [] [] (by repeat (first|exact trivial|refine ⟨rfl,?_⟩)) (fun i=>[(4,.int .i64 i),(3,.int .i64 (mxN es (i - 1)))]) [(0,_),(2,_)] (fun _=>[]) [] (fun i=>1≤i∧i≤es.length) (fun i=>es.length - i) (by decide) 1 ⟨Nat.le_refl _,by omega⟩ (by (try simp only[go_sem]);repeat' (first|exact trivial|refine And.intro ?_ ?_|rfl|(simp (disch:=omega) only[go_sem,if_yes,if_no,if_no];rfl)|(simp (disch:=omega) only[go_sem,if_yes,if_no,if_no]))) (by (try simp only[go_sem]);repeat' (first|exact trivial|refine And.intro ?_ ?_|rfl|(simp (disch:=omega) only[go_sem,if_yes,if_no,if_no];rfl)|(simp (disch:=omega) only[go_sem,if_yes,if_no,if_no]))) (by first|(simp only[go_sem];rfl)|rfl) (by intro n;simp only[go_sem];rfl) ?_
 rintro i c ⟨hi1,hi'⟩ hc
 simp only[go_sem]
 repeat' (first|refine st_seq_reg rfl (by first|(simp only[go_sem];rfl)|rfl) (by first|(simp only[go_sem];rfl)|rfl) ?_|refine st_reg rfl (by first|(simp only[go_sem];rfl)|rfl) (by first|(simp only[go_sem];rfl)|rfl) ?_|refine st_op ?_|refine st_det rfl (by simp (disch:=omega) only[go_sem,wr_i64];rfl) ?_|(refine st_condS rfl ?_ ?_ <;> intro hg <;> (try simp only[dcT,dcF,bnT,bnF] at hg))|refine st_nil ?_|refine st_tN ?_|refine st_seq ?_|refine st_block ?_|refine st_skip ?_|refine st_exit ?_|refine st_ret ?_|refine st_tE ?_|refine st_bN ?_|refine st_bH ?_)
 ·have e:mxN es i=max (mxN es (i - 1)) (es.getD i 0):=by
   obtain ⟨j,rfl⟩:∃ j,i=j+1:=⟨i - 1,by omega⟩
   rfl
  refine ⟨i+1,⟨by omega,by omega⟩,by omega,(by (try (rw [Nat.add_sub_cancel,e]));repeat' (first|exact trivial|refine And.intro ?_ ?_|rfl|(simp (disch:=omega) only[go_sem,if_yes,if_no,if_no];rfl)|(simp (disch:=omega) only[go_sem,if_yes,if_no,if_no]))),(by (try (rw [Nat.add_sub_cancel,e]));repeat' (first|exact trivial|refine And.intro ?_ ?_|rfl|(simp (disch:=omega) only[go_sem,if_yes,if_no,if_no];rfl)|(simp (disch:=omega) only[go_sem,if_yes,if_no,if_no]))),rfl,(by first|exact HOld.of _ (by omega)|exact HOld.put _ _ _ (by omega))⟩
 ·have e:i=es.length:=by omega
  rw [mxN_take (i - 1) (by omega),show i - 1+1=es.length by omega,List.take_length]
  simp (disch:=omega) only[AEnd,Tryz.results133,aresK,fin,go_sem,implies_true,true_and,and_true,List.reverse_cons,List.reverse_nil]
end Go.Proofs.YtaijkalhkgjakaaGreatDoor

namespace Go.Proofs.YtaijkalhkgjakaaGreatDoor
open Go.Av
attribute [local irreducible] thenA blockA awp awpOps awpD awp1
attribute [local go_sem_proc] Nat.reduceAdd Nat.reduceMul Nat.reduceEqDiff Nat.reduceBEq Nat.reduceLeDiff
attribute [local go_sem_proc ↓] reduceIte
attribute [local go_sem] if_yes if_no
set_option maxHeartbeats 8000000
set_option maxRecDepth 20000
structure Dr.Bd (x:Dr) (C:Int):Prop where
 h:∀ i,0≤x.hands.getD i 0∧x.hands.getD i 0≤C
 f:∀ i,0≤x.fls.getD i 0∧x.fls.getD i 0≤C
 l:0≤x.last∧x.last≤C
theorem lstep_bd {S:Sp} (hS:S.Ok) {x:Dr} (z:x.Sz S) (b:x.Bd 1000):∀ i,i≤S.js.length→(∀ g,0≤(lstep S.js x i).1.getD g 0∧(lstep S.js x i).1.getD g 0≤1000+30 * i)∧0≤(lstep S.js x i).2.2∧(lstep S.js x i).2.2≤30 * i:=by
 intro i
 induction i with
 | zero=>intro _;exact ⟨fun g=>by have:=b.f g;simp only[lstep];omega,by simp [lstep],by simp [lstep]⟩
 | succ i ih =>
  intro hi
  obtain ⟨h1,h2,h3⟩:=ih (by omega)
  have hj:=hS.j (show i < S.js.length by omega)
  have e0:S.j i=jOf S.js i:=rfl
  rw [e0] at hj
  unfold Jb.Ok at hj
  have hl:=(lstep_len (js:=S.js) (x:=x) i).1
  rw [z.fls] at hl
  cases hb:x.pl.testBit i with
  | true =>
   have e:lstep S.js x (i+1)=lstep S.js x i:=by simp only[lstep,hb,if_true]
   rw [e]
   exact ⟨fun g=>by have:=h1 g;omega,h2,by omega⟩
  | false =>
   have e:lstep S.js x (i+1)=((lstep S.js x i).1.set (jOf S.js i).f.toNat (max x.last ((lstep S.js x i).1.getD (jOf S.js i).f.toNat 0)+(jOf S.js i).d),(lstep S.js x i).2.1.set i (max x.last ((lstep S.js x i).1.getD (jOf S.js i).f.toNat 0)),(lstep S.js x i).2.2+(jOf S.js i).d):=by
    simp only[lstep,hb,Bool.false_eq_true,if_false]
   rw [e]
   dsimp only
   have hf:=h1 (jOf S.js i).f.toNat
   have hx:=b.l
   refine ⟨fun g=>?_,by omega,by omega⟩
   rw [getD_set _ _ _ _ _ (by omega)]
   have:=h1 g
   split <;> omega
theorem freeD_bd {x:Dr} (b:x.Bd 1000):∀ n:Nat,0≤freeD x n∧freeD x n≤1000 * n:=by
 intro n
 induction n with
 | zero=>simp [freeD]
 | succ n ih=>simp only[freeD];have:=b.h n;omega
theorem aC_rows (l:List Int) (n:Nat) (h:l.length=n):(aC n (ixF l)).map (fun x=>[x])=l.map iv:=by
 subst h
 apply List.ext_getElem?
 intro i
 by_cases hi:i < l.length
 ·simp [aC,ixF,hi,List.getD_eq_getElem?_getD,iv]
 ·simp [aC,hi]
theorem dC_hands (d h f:Nat→Int) (p l:Int):((dC d p h f l).drop 8).take 4=aC 4 h:=by
 apply List.ext_getElem?
 intro i
 rw [List.getElem?_take]
 by_cases hi:i < 4
 ·rw [if_pos hi,List.getElem?_drop,dC_hand _ _ _ _ _ hi,aC_get hi]
 ·rw [if_neg hi,List.getElem?_eq_none (by rw [aC_len];omega)]
theorem dC_arr0 (d h f:Nat→Int) (p l:Int):(dC d p h f l).take 7=aC 7 d:=by
 apply List.ext_getElem?
 intro i
 rw [List.getElem?_take]
 by_cases hi:i < 7
 ·rw [if_pos hi,dC_day _ _ _ _ _ hi,aC_get hi]
 ·rw [if_neg hi,List.getElem?_eq_none (by rw [aC_len];omega)]
theorem dC_arr3 (d h f:Nat→Int) (p l:Int):((dC d p h f l).drop 12).take 7=aC 7 f:=by
 apply List.ext_getElem?
 intro i
 rw [List.getElem?_take]
 by_cases hi:i < 7
 ·rw [if_pos hi,List.getElem?_drop,dC_fl _ _ _ _ _ hi,aC_get hi]
 ·rw [if_neg hi,List.getElem?_eq_none (by rw [aC_len];omega)]
theorem aC_take (n:Nat) (d:Nat→Int):(aC n d).take n=aC n d:=List.take_of_length_le (by rw [aC_len];omega)
theorem c102 (S:Sp) (x:Dr) (hS:S.Ok) (z:x.Sz S) (b:x.Bd 1000):Pure Tryz.prog 102 [x.av,S.av] (fun v=>v=.tup [.int .i64 (leastD S x).1,.agg (aC 7 (ixF (leastD S x).2))]):=by
 have h7:=hS.n7
 have h4:=hS.m4
 have h0:=hS.m0
 have hp:x.pl < 128:=Nat.lt_of_lt_of_le z.pl (Nat.pow_le_pow_right (by omega:0 < 2) h7)
 have hbl:=b.l
 intro h
 unfold Dr.av
 refine ACalls.forget (ACalls.of tab mixed Tryz.call102 Tryz.func102 rfl (fi:=⟨89,[5,7,10],[2,3,1000016],none,[(6,[0,0,2,0,8,24,56,126,255,511],[(0,false),(1,false),(2,true),(3,false),(4,true),(5,false),(6,false),(7,false),(8,false),(9,false)]),(7,[0,1,0,4,12,0,32,124,255,511],[(0,false),(1,true),(2,false),(3,false),(4,true),(5,false),(6,true),(7,false),(8,false),(9,false)]),(16,[0,0,2,7,15,31],[(0,false),(1,false),(2,false),(3,false),(4,false),(5,false)]),(20,[0,0,1,7],[(0,false),(1,true),(2,false),(3,false)])]⟩) rfl rfl (Nat.le_of_ble_eq_true rfl) (by decide) ?_)
 unfold startA
 try simp only[go_sem]
 repeat' (first|refine st_seq_reg rfl (by first|(simp only[go_sem,dC_arr0,dC_arr3,List.append_nil,aC_take];rfl)|rfl) (by first|(simp only[go_sem,dC_arr0,dC_arr3,List.append_nil,aC_take];rfl)|rfl) ?_|refine st_op ?_|refine st_det rfl (by simp (disch:=omega) only[go_sem,wr_i64,dC_arr0,dC_arr3,List.append_nil,aC_take];rfl) ?_|refine st_loc rfl (by simp (disch:=omega) only[go_sem,wr_i64,dC_arr0,dC_arr3,List.append_nil,aC_take];rfl) ?_|refine st_heap rfl (by simp (disch:=omega) only[go_sem,wr_i64,dC_arr0,dC_arr3,List.append_nil,aC_take];rfl) ?_|refine st_store (by simp (disch:=omega) only[go_sem,wr_i64,dC_arr0,dC_arr3,List.append_nil,aC_take];rfl) ?_|refine st_nil ?_|refine st_seq ?_|refine st_block ?_)
 refine st_loopH (α:=Nat) tab mixed [7] [_] (by repeat (first|exact trivial|refine ⟨rfl,?_⟩)) [5] [_] (by repeat (first|exact trivial|refine ⟨rfl,?_⟩)) (fun i=>[(22,.int .i64 i),(8,.int .i64 (lstep S.js x i).2.2)]) [(2,_),(3,_),(4,_),(5,_),(6,_),(7,_),(20,_),(21,_)] (fun i=>[aC 7 (ixF (lstep S.js x i).2.1)]) [_] (fun i=>(h.tick (h.clk+1+1+1)).put (h.clk+1,6) (some ⟨7,[aC 7 (ixF (lstep S.js x i).1)]⟩)) (fun i=>i≤S.js.length) (fun i=>S.js.length - i) (by decide) 0 (Nat.zero_le _) (by (try simp only[go_sem]);repeat' (first|exact trivial|refine And.intro ?_ ?_|rfl|(simp (disch:=omega) only[go_sem,if_yes,if_no,if_no];rfl)|(simp (disch:=omega) only[go_sem,if_yes,if_no,if_no]))) (by (try simp only[go_sem]);repeat' (first|exact trivial|refine And.intro ?_ ?_|rfl|(simp (disch:=omega) only[go_sem,if_yes,if_no,if_no];rfl)|(simp (disch:=omega) only[go_sem,if_yes,if_no,if_no]))) (HOld.refl _) ?_
 rintro i c hi hc
 have hc0:h.clk+1+1+1≤c:=hc
 simp only[go_sem]
 obtain ⟨hb1,hb2,hb3⟩:=lstep_bd hS z b i hi
 have hlen:=lstep_len (js:=S.js) (x:=x) i
 rw [z.fls,z.day] at hlen
 have hjk:i < S.js.length→(jOf S.js i).Ok:=fun h=>hS.j h
 unfold Jb.Ok at hjk
 have hbf:0≤ixF (lstep S.js x i).1 (jOf S.js i).f.toNat∧ixF (lstep S.js x i).1 (jOf S.js i).f.toNat≤1000+30 * i:=hb1 _
 have hT:x.pl.testBit i=true→lstep S.js x (i+1)=lstep S.js x i:=fun h=>by simp only[lstep,h,if_true]
 have hF:x.pl.testBit i=false→lstep S.js x (i+1)=((lstep S.js x i).1.set (jOf S.js i).f.toNat (max x.last (ixF (lstep S.js x i).1 (jOf S.js i).f.toNat)+(jOf S.js i).d),(lstep S.js x i).2.1.set i (max x.last (ixF (lstep S.js x i).1 (jOf S.js i).f.toNat)),(lstep S.js x i).2.2+(jOf S.js i).d):=fun h=>by
  simp only[lstep,h,Bool.false_eq_true,if_false];rfl
 repeat' (first|refine st_seq_reg rfl (by first|(simp only[go_sem,List.append_nil,Nat.mul_one,Nat.zero_add,dC_take,upd_same];rfl)|rfl) (by first|(simp only[go_sem,List.append_nil,Nat.mul_one,Nat.zero_add,dC_take,upd_same];rfl)|rfl) ?_|refine st_reg rfl (by first|(simp only[go_sem,List.append_nil,Nat.mul_one,Nat.zero_add,dC_take,upd_same];rfl)|rfl) (by first|(simp only[go_sem,List.append_nil,Nat.mul_one,Nat.zero_add,dC_take,upd_same];rfl)|rfl) ?_|refine st_seq_draw rfl (by first|(simp only[go_sem,List.append_nil,Nat.mul_one,Nat.zero_add,dC_take,upd_same];rfl)|rfl) (by first|(simp only[go_sem,List.append_nil,Nat.mul_one,Nat.zero_add,dC_take,upd_same];rfl)|rfl) ?_|refine st_op ?_|refine st_det rfl (by simp (disch:=omega) only[go_sem,wr_i64,List.append_nil,Nat.mul_one,Nat.zero_add,dC_take,upd_same];rfl) ?_|refine st_dop rfl ?_|refine st_loc rfl (by simp (disch:=omega) only[go_sem,wr_i64,List.append_nil,Nat.mul_one,Nat.zero_add,dC_take,upd_same];rfl) ?_|refine st_store (by simp (disch:=omega) only[go_sem,wr_i64,List.append_nil,Nat.mul_one,Nat.zero_add,dC_take,upd_same];rfl) ?_|(refine st_pureE (by first|(simp (disch:=omega) only[go_sem,List.append_nil,Nat.mul_one,Nat.zero_add,dC_take,upd_same];rfl)|rfl) rfl (c132 x i hp (by omega)) (by first|(simp only[go_sem,List.append_nil,Nat.mul_one,Nat.zero_add,dC_take,upd_same];rfl)|rfl) (by intro n;first|(simp (disch:=omega) only[go_sem];rfl)|rfl) ?_;intro n hn)|(refine st_condS rfl ?_ ?_ <;> intro hg <;> (try simp only[dcT,dcF,bnT,bnF] at hg))|refine st_nil ?_|refine st_dnil ?_|refine st_tN ?_|refine st_seq ?_|refine st_block ?_|refine st_skip ?_|refine st_exit ?_|refine st_tE ?_|refine st_bN ?_|refine st_bH ?_)
 ·have e:=hF (by simpa using hg)
  have s1:ixF (lstep S.js x (i+1)).1=upd (ixF (lstep S.js x i).1) (jOf S.js i).f.toNat (max x.last (ixF (lstep S.js x i).1 (jOf S.js i).f.toNat)+(jOf S.js i).d):=by rw [e];exact ixF_set (by omega) _
  have s2:ixF (lstep S.js x (i+1)).2.1=upd (ixF (lstep S.js x i).2.1) i (max x.last (ixF (lstep S.js x i).1 (jOf S.js i).f.toNat)):=by rw [e];exact ixF_set (by omega) _
  have s3:(lstep S.js x (i+1)).2.2=(lstep S.js x i).2.2+(jOf S.js i).d:=by rw [e]
  refine ⟨i+1,(by omega),by omega,(by (try (simp only[s2,s3]));repeat' (first|exact trivial|refine And.intro ?_ ?_|rfl|(simp (disch:=omega) only[go_sem,if_yes,if_no,if_no];rfl)|(simp (disch:=omega) only[go_sem,if_yes,if_no,if_no]))),(by (try (simp only[s2,s3]));repeat' (first|exact trivial|refine And.intro ?_ ?_|rfl|(simp (disch:=omega) only[go_sem,if_yes,if_no,if_no];rfl)|(simp (disch:=omega) only[go_sem,if_yes,if_no,if_no]))),rfl,(by rw [s1];exact HOld.put _ _ _ (by omega))⟩
 ·have e:=hT (by simpa using hg)
  refine ⟨i+1,(by omega),by omega,(by (try (rw [e]));repeat' (first|exact trivial|refine And.intro ?_ ?_|rfl|(simp (disch:=omega) only[go_sem,if_yes,if_no,if_no];rfl)|(simp (disch:=omega) only[go_sem,if_yes,if_no,if_no]))),(by (try (rw [e]));repeat' (first|exact trivial|refine And.intro ?_ ?_|rfl|(simp (disch:=omega) only[go_sem,if_yes,if_no,if_no];rfl)|(simp (disch:=omega) only[go_sem,if_yes,if_no,if_no]))),rfl,(by rw [e];exact HOld.put _ _ _ (by omega))⟩
 have ei:i=S.js.length:=by omega
 subst ei
 have hfb:=freeD_bd b
 refine st_loopH (α:=Nat) tab mixed [] [] (by repeat (first|exact trivial|refine ⟨rfl,?_⟩)) [5,7] [_,_] (by repeat (first|exact trivial|refine ⟨rfl,?_⟩)) (fun k=>[(57,.int .i64 k),(11,.int .i64 (freeD x k))]) [(2,_),(3,_),(4,_),(5,_),(6,_),(7,_),(8,_),(55,_),(56,_)] (fun _=>[]) [_,_] (fun k=>(h.tick (c+1+1+1)).put (h.clk+1,6) (some ⟨7,[aC 7 (ixF (lstep S.js x S.js.length).1)]⟩)) (fun k=>k≤S.ws.length) (fun k=>S.ws.length - k) (by decide) 0 (Nat.zero_le _) (by (try simp only[go_sem]);repeat' (first|exact trivial|refine And.intro ?_ ?_|rfl|(simp (disch:=omega) only[go_sem,if_yes,if_no,if_no];rfl)|(simp (disch:=omega) only[go_sem,if_yes,if_no,if_no]))) (by (try simp only[go_sem]);repeat' (first|exact trivial|refine And.intro ?_ ?_|rfl|(simp (disch:=omega) only[go_sem,if_yes,if_no,if_no];rfl)|(simp (disch:=omega) only[go_sem,if_yes,if_no,if_no]))) (HOld.refl _) ?_
 rintro k c' hk hc'
 have hc0':c+1+1+1≤c':=hc'
 simp only[go_sem]
 have hbk:=hfb k
 have hbk1:=hfb (k+1)
 have hbh:0≤ixF x.hands k∧ixF x.hands k≤1000:=b.h k
 repeat' (first|refine st_seq_reg rfl (by first|(simp only[go_sem,List.append_nil,Nat.mul_one,Nat.zero_add,dC_take,upd_same];rfl)|rfl) (by first|(simp only[go_sem,List.append_nil,Nat.mul_one,Nat.zero_add,dC_take,upd_same];rfl)|rfl) ?_|refine st_reg rfl (by first|(simp only[go_sem,List.append_nil,Nat.mul_one,Nat.zero_add,dC_take,upd_same];rfl)|rfl) (by first|(simp only[go_sem,List.append_nil,Nat.mul_one,Nat.zero_add,dC_take,upd_same];rfl)|rfl) ?_|refine st_op ?_|refine st_det rfl (by simp (disch:=omega) only[go_sem,wr_i64,List.append_nil,Nat.mul_one,Nat.zero_add,dC_take,upd_same];rfl) ?_|(refine st_condS rfl ?_ ?_ <;> intro hg <;> (try simp only[dcT,dcF,bnT,bnF] at hg))|refine st_nil ?_|refine st_tN ?_|refine st_seq ?_|refine st_block ?_|refine st_skip ?_|refine st_exit ?_|refine st_tE ?_|refine st_bN ?_|refine st_bH ?_)
 ·have e:freeD x (k+1)=freeD x k+ixF x.hands k:=rfl
  refine ⟨k+1,(by omega),by omega,(by (try (rw [e]));repeat' (first|exact trivial|refine And.intro ?_ ?_|rfl|(simp (disch:=omega) only[go_sem,if_yes,if_no,if_no];rfl)|(simp (disch:=omega) only[go_sem,if_yes,if_no,if_no]))),(by (try (rw [e]));repeat' (first|exact trivial|refine And.intro ?_ ?_|rfl|(simp (disch:=omega) only[go_sem,if_yes,if_no,if_no];rfl)|(simp (disch:=omega) only[go_sem,if_yes,if_no,if_no]))),rfl,HOld.put _ _ _ (by omega)⟩
 have ek:k=S.ws.length:=by omega
 subst ek
 first|refine st_free ?_|refine st_seq_free ?_
 refine ASem.frzT 6 (b:=(h.clk+1,6)) (z:=7) (row:=aC 7 (ixF (lstep S.js x S.js.length).1)) (by simp only[go_sem,↓reduceIte]) (by simp only[go_sem,↓reduceIte,Nat.reduceEqDiff]) ?_
 refine st_run tab mixed (f2:=⟨89,[5,7,10],[2,3],none,[(6,[0,0,2,0,8,24,56,126,255,511],[(0,false),(1,false),(2,true),(3,false),(4,true),(5,false),(6,false),(7,false),(8,false),(9,false)]),(7,[0,1,0,4,12,0,32,124,255,511],[(0,false),(1,true),(2,false),(3,false),(4,true),(5,false),(6,true),(7,false),(8,false),(9,false)]),(16,[0,0,2,7,15,31],[(0,false),(1,false),(2,false),(3,false),(4,false),(5,false)]),(20,[0,0,1,7],[(0,false),(1,true),(2,false),(3,false)])]⟩) rfl rfl (by decide) ?_
 have hlf:(lstep S.js x S.js.length).1.length=7:=hlen.1
 have hrw:(aC 7 (ixF (lstep S.js x S.js.length).1)).map (fun x=>[x]) ++ (aC 4 (ixF x.hands)).map (fun x=>[x])=((lstep S.js x S.js.length).1 ++ x.hands).map iv:=by
  rw [aC_rows _ _ hlf,aC_rows _ _ z.hands,List.map_append]
 have hes:((lstep S.js x S.js.length).1 ++ x.hands) ≠ []:=by intro e;have:=congrArg List.length e;simp [z.hands] at this
 have h11:(((lstep S.js x S.js.length).1 ++ x.hands).map iv).length=11:=by simp [hlf,z.hands]
 have hfz:frz (c'+1,70) ⟨1,((lstep S.js x S.js.length).1 ++ x.hands).map iv⟩ (.slc (c'+1,70) 1 0 11)=.lst 1 (((lstep S.js x S.js.length).1 ++ x.hands).map iv):=by
  simp only[frz,h11,List.drop_zero,Nat.zero_add,Nat.le_refl,and_self,if_true]
  rw [List.take_of_length_le (by rw [h11];omega)]
 have hm0:0≤maxL ((lstep S.js x S.js.length).1 ++ x.hands):=Int.le_trans (b.h 0).1 (maxL_ge (List.mem_append.2 (.inr (getD_mem (by rw [z.hands];omega)))))
 have hmx:maxL ((lstep S.js x S.js.length).1 ++ x.hands)≤2000:=by
  obtain ⟨j,hj,e⟩:=mem_getD (maxL_mem hes)
  rw [← e,getD_append]
  split
  ·have:=hb1 j;omega
  ·have:=b.h (j - (lstep S.js x S.js.length).1.length);omega
 have hfr:=hfb S.ws.length
 have hmw:(S.ws.length:Int) ≠ 0:=by omega
 repeat' (first|refine st_seq_reg rfl (by first|(simp only[go_sem,List.append_nil,Nat.mul_one,Nat.zero_add,dC_take,upd_same,aC_take,dC_hands,length_map,big,hrw,List.drop_zero,hmw];rfl)|rfl) (by first|(simp only[go_sem,List.append_nil,Nat.mul_one,Nat.zero_add,dC_take,upd_same,aC_take,dC_hands,length_map,big,hrw,List.drop_zero,hmw];rfl)|rfl) ?_|refine st_reg rfl (by first|(simp only[go_sem,List.append_nil,Nat.mul_one,Nat.zero_add,dC_take,upd_same,aC_take,dC_hands,length_map,big,hrw,List.drop_zero,hmw];rfl)|rfl) (by first|(simp only[go_sem,List.append_nil,Nat.mul_one,Nat.zero_add,dC_take,upd_same,aC_take,dC_hands,length_map,big,hrw,List.drop_zero,hmw];rfl)|rfl) ?_|refine st_seq_draw rfl (by first|(simp only[go_sem,List.append_nil,Nat.mul_one,Nat.zero_add,dC_take,upd_same,aC_take,dC_hands,length_map,big,hrw,List.drop_zero,hmw];rfl)|rfl) (by first|(simp only[go_sem,List.append_nil,Nat.mul_one,Nat.zero_add,dC_take,upd_same,aC_take,dC_hands,length_map,big,hrw,List.drop_zero,hmw];rfl)|rfl) ?_|refine st_draw rfl (by first|(simp only[go_sem,List.append_nil,Nat.mul_one,Nat.zero_add,dC_take,upd_same,aC_take,dC_hands,length_map,big,hrw,List.drop_zero,hmw];rfl)|rfl) (by first|(simp only[go_sem,List.append_nil,Nat.mul_one,Nat.zero_add,dC_take,upd_same,aC_take,dC_hands,length_map,big,hrw,List.drop_zero,hmw];rfl)|rfl) ?_|refine st_op ?_|refine st_det rfl (by simp (disch:=omega) only[go_sem,wr_i64,List.append_nil,Nat.mul_one,Nat.zero_add,dC_take,upd_same,aC_take,dC_hands,length_map,big,hrw,List.drop_zero,hmw];rfl) ?_|refine st_dop rfl ?_|refine st_store (by simp (disch:=omega) only[go_sem,wr_i64,List.append_nil,Nat.mul_one,Nat.zero_add,dC_take,upd_same,aC_take,dC_hands,length_map,big,hrw,List.drop_zero,hmw];rfl) ?_|refine st_append (by simp (disch:=omega) only[go_sem,wr_i64,List.append_nil,Nat.mul_one,Nat.zero_add,dC_take,upd_same,aC_take,dC_hands,length_map,big,hrw,List.drop_zero,hmw];rfl) ?_|(refine st_callf (args:=[.slc (c'+1,70) 1 0 11]) rfl rfl (ACalls.frzIn (b:=(c'+1,70)) (k:=⟨1,((lstep S.js x S.js.length).1 ++ x.hands).map iv⟩) (args':=[.lst 1 (((lstep S.js x S.js.length).1 ++ x.hands).map iv)]) (by simp only[go_sem,↓reduceIte] <;> rfl) (by simp only[frzs,hfz]) (c133 _ hes (by simp [hlf,z.hands]) _)) ?_;rintro v h' ⟨⟨n,hn,rfl⟩,rfl⟩)|(refine st_condS rfl ?_ ?_ <;> intro hg <;> (try simp only[dcT,dcF,bnT,bnF] at hg))|refine st_nil ?_|refine st_dnil ?_|refine st_tN ?_|refine st_seq ?_|refine st_skip ?_|refine st_ret ?_)
 all_goals
  have hq:∀ b':Bid,b'.1 < h.clk→¬ b'=(h.clk+1,6)∧¬ b'=(c'+1,70):=fun b' hb'=>⟨fun e=>by rw [e] at hb';exact absurd hb' (by show ¬ h.clk+1 < h.clk;omega),fun e=>by rw [e] at hb';exact absurd hb' (by show ¬ c'+1 < h.clk;omega)⟩
 ·simp (disch:=omega) only[AEnd,Tryz.results102,aresK,fin,go_sem,implies_true,true_and,and_true,List.reverse_cons,List.reverse_nil]
  refine ⟨fun b' hb'=>by simp only[(hq b' hb').1,(hq b' hb').2,if_false],?_⟩
  simp only[leastD]
  rw [if_pos (by omega),aC_take]
  have hA:0≤freeD x S.ws.length+(lstep S.js x S.js.length).2.2+S.ws.length - 1:=by omega
  have hq1:0≤(freeD x S.ws.length+(lstep S.js x S.js.length).2.2+S.ws.length - 1).tdiv S.ws.length:=Int.tdiv_nonneg hA (by omega)
  have hq2:(freeD x S.ws.length+(lstep S.js x S.js.length).2.2+S.ws.length - 1).tdiv S.ws.length≤freeD x S.ws.length+(lstep S.js x S.js.length).2.2+S.ws.length - 1:=Int.tdiv_le_self _ hA
  rw [wr_i64 (by omega)]
 ·simp (disch:=omega) only[AEnd,Tryz.results102,aresK,fin,go_sem,implies_true,true_and,and_true,List.reverse_cons,List.reverse_nil]
  refine ⟨fun b' hb'=>by simp only[(hq b' hb').1,(hq b' hb').2,if_false],?_⟩
  simp only[leastD]
  rw [if_neg (by omega),aC_take]
end Go.Proofs.YtaijkalhkgjakaaGreatDoor
