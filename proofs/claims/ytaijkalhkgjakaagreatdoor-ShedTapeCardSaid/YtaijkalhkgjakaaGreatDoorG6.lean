/- Contracts of functions that the claim reaches: what each call gives, told in our own logic. Conditions: those of each theorem. -/
import Derived.Test.YtaijkalhkgjakaaGreatDoorG3
import Derived.Test.YtaijkalhkgjakaaGreatDoorP2
import Derived.Test.YtaijkalhkgjakaaGreatDoorP6
open Nat (reduceAdd reduceMul reduceEqDiff reduceLeDiff)
set_option linter.all false
set_option linter.unusedSimpArgs false
set_option linter.unusedVariables false
namespace Go.Proofs.YtaijkalhkgjakaaGreatDoor
open Go.Av
attribute [local irreducible] thenA blockA awp awpOps awpD awp1
set_option maxHeartbeats 8000000
set_option maxRecDepth 20000
theorem c100 (S:Sp) (i:Nat) (hi:i < S.js.length) (h7:S.js.length≤7):Pure Tryz.prog 100 [S.av,.int .i64 i] (fun v=>v=.int .i64 (befJ S.js (jOf S.js i).f i)):=by
  intro h
  refine ACalls.forget (ACalls.of tab mixed Tryz.call100 Tryz.func100 rfl (fi:=⟨26,[],[2],none,[(4,[0,1,0,7,15,31,0,64,0,448,960,1984,4095],[(0,false),(1,true),(2,false),(3,false),(4,false),(5,true),(6,false),(7,true),(8,false),(9,false),(10,false),(11,true),(12,false)])]⟩) rfl rfl (Nat.le_of_ble_eq_true rfl) (by decide) ?_)
  unfold startA
  try simp only[go_sem]
  repeat' (first|refine st_seq_reg rfl (by first|(simp only[go_sem];rfl)|rfl) (by first|(simp only[go_sem];rfl)|rfl) ?_|refine st_op ?_|refine st_det rfl (by simp (disch:=omega) only[go_sem,wr_i64,if_yes,if_no,↓reduceIte,reduceAdd,reduceMul,reduceEqDiff,Nat.reduceBEq,reduceLeDiff];rfl) ?_|refine st_nil ?_|refine st_seq ?_|refine st_block ?_)
  refine st_loopC (α:=Nat) tab mixed [] [] (by repeat (first|exact trivial|refine ⟨rfl,?_⟩)) [] [] (by repeat (first|exact trivial|refine ⟨rfl,?_⟩)) (fun k=>[(5,.int .i64 ((k:Int) - 1))]) [(1,_),(2,_),(4,_)] (fun _=>[]) [] (fun k=>k≤i∧befJ S.js (jOf S.js i).f k=befJ S.js (jOf S.js i).f i) (fun k=>k) (by decide) i ⟨Nat.le_refl _,rfl⟩ (by (try simp only[go_sem]);repeat' (first|exact trivial|refine And.intro ?_ ?_|rfl|(simp (disch:=omega) only[go_sem,if_yes,if_no,↓reduceIte,reduceAdd,reduceMul,reduceEqDiff,Nat.reduceBEq,reduceLeDiff];rfl)|(simp (disch:=omega) only[go_sem,if_yes,if_no,↓reduceIte,reduceAdd,reduceMul,reduceEqDiff,Nat.reduceBEq,reduceLeDiff]))) (by (try simp only[go_sem]);repeat' (first|exact trivial|refine And.intro ?_ ?_|rfl|(simp (disch:=omega) only[go_sem,if_yes,if_no,↓reduceIte,reduceAdd,reduceMul,reduceEqDiff,Nat.reduceBEq,reduceLeDiff];rfl)|(simp (disch:=omega) only[go_sem,if_yes,if_no,↓reduceIte,reduceAdd,reduceMul,reduceEqDiff,Nat.reduceBEq,reduceLeDiff]))) (by first|(simp only[go_sem];rfl)|rfl) (by intro n;simp only[go_sem];rfl) ?_
  rintro k c ⟨hk,hall⟩ hc
  try simp only[go_sem]
  have hk1:0 < k→((k:Int) - 1).toNat=k - 1:=fun h=>by omega
  have hcs:0 < k→befJ S.js (jOf S.js i).f k=if (jOf S.js (k - 1)).f=(jOf S.js i).f then ((k - 1:Nat):Int) else befJ S.js (jOf S.js i).f (k - 1):=fun h=>by
    have:k=(k - 1)+1:=by omega
    rw [this];rfl
  repeat' (first|refine st_seq_reg rfl (by first|(simp only[go_sem,hk1];rfl)|rfl) (by first|(simp only[go_sem,hk1];rfl)|rfl) ?_|refine st_reg rfl (by first|(simp only[go_sem,hk1];rfl)|rfl) (by first|(simp only[go_sem,hk1];rfl)|rfl) ?_|refine st_seq_draw rfl (by first|(simp only[go_sem,hk1];rfl)|rfl) (by first|(simp only[go_sem,hk1];rfl)|rfl) ?_|refine st_op ?_|refine st_det rfl (by simp (disch:=omega) only[go_sem,wr_i64,if_yes,if_no,↓reduceIte,reduceAdd,reduceMul,reduceEqDiff,Nat.reduceBEq,reduceLeDiff,hk1];rfl) ?_|refine st_dop rfl ?_|(refine st_condS rfl ?_ ?_ <;> intro hg <;> (try simp only[decide_eq_true_eq,decide_eq_false_iff_not,Bool.not_eq_true',Bool.not_eq_false'] at hg))|refine st_nil ?_|refine st_dnil ?_|refine st_tN ?_|refine st_seq ?_|refine st_block ?_|refine st_skip ?_|refine st_exit ?_|refine st_ret ?_|refine st_tE ?_|refine st_tR ?_|refine st_bN ?_|refine st_bR ?_|refine st_bH ?_)
  · simp (disch:=omega) only[AEnd,Tryz.results100,aresK,fin,go_sem,↓reduceIte,reduceEqDiff,reduceAdd,reduceLeDiff,if_yes,if_no,implies_true,true_and,and_true,List.reverse_cons,List.reverse_nil]
    rw [← hall,hcs (by omega),if_pos (by assumption)]
    congr 1;omega
  · refine ⟨k - 1,⟨by omega,by rw [← hall,hcs (by omega),if_neg (by assumption)]⟩,by omega,(by (try (rw [show ((k - 1:Nat):Int) - 1=(k:Int) - 1 - 1 by omega]));repeat' (first|exact trivial|refine And.intro ?_ ?_|rfl|(simp (disch:=omega) only[go_sem,if_yes,if_no,↓reduceIte,reduceAdd,reduceMul,reduceEqDiff,Nat.reduceBEq,reduceLeDiff];rfl)|(simp (disch:=omega) only[go_sem,if_yes,if_no,↓reduceIte,reduceAdd,reduceMul,reduceEqDiff,Nat.reduceBEq,reduceLeDiff]))),(by (try (rw [show ((k - 1:Nat):Int) - 1=(k:Int) - 1 - 1 by omega]));repeat' (first|exact trivial|refine And.intro ?_ ?_|rfl|(simp (disch:=omega) only[go_sem,if_yes,if_no,↓reduceIte,reduceAdd,reduceMul,reduceEqDiff,Nat.reduceBEq,reduceLeDiff];rfl)|(simp (disch:=omega) only[go_sem,if_yes,if_no,↓reduceIte,reduceAdd,reduceMul,reduceEqDiff,Nat.reduceBEq,reduceLeDiff]))),rfl,(by first|exact HOld.of _ (by omega)|exact HOld.put _ _ _ (by omega))⟩
  · simp (disch:=omega) only[AEnd,Tryz.results100,aresK,fin,go_sem,↓reduceIte,reduceEqDiff,reduceAdd,reduceLeDiff,if_yes,if_no,implies_true,true_and,and_true,List.reverse_cons,List.reverse_nil]
    have e:k=0:=by omega
    rw [← hall,e];rfl
theorem c132 (x:Dr) (j:Nat) (hp:x.pl < 128) (hj:j < 7):Pure Tryz.prog 132 [x.av,.int .i64 j] (fun v=>v=.bool (x.pl.testBit j)):=by
  intro h
  unfold Dr.av
  refine ACalls.forget (ACalls.of tab mixed Tryz.call132 Tryz.func132 rfl (fi:=⟨11,[],[2],none,[]⟩) rfl rfl (Nat.le_of_ble_eq_true rfl) (by decide) ?_)
  unfold startA
  try simp only[go_sem]
  repeat' (first|refine st_seq_reg rfl (by first|(simp only[go_sem];rfl)|rfl) (by first|(simp only[go_sem];rfl)|rfl) ?_|refine st_op ?_|refine st_det rfl (by simp (disch:=omega) only[go_sem,wr_i64,if_yes,if_no,↓reduceIte,reduceAdd,reduceMul,reduceEqDiff,Nat.reduceBEq,reduceLeDiff];rfl) ?_|refine st_nil ?_|refine st_ret ?_)
  simp (disch:=omega) only[AEnd,Tryz.results132,aresK,fin,go_sem,↓reduceIte,reduceEqDiff,reduceAdd,reduceLeDiff,if_yes,if_no,implies_true,true_and,and_true,List.reverse_cons,List.reverse_nil]
  rw [hasI hp hj]
theorem c135 (S:Sp) (x:Dr) (j:Nat) (hp:x.pl < 128) (hj:j < S.js.length) (h7:S.js.length≤7):Pure Tryz.prog 135 [x.av,S.av,.int .i64 j] (fun v=>v=.bool (readyD S.js x j)):=by
  intro h
  have hb:=befJ_cases S.js (jOf S.js j).f j
  have hbn:0≤befJ S.js (jOf S.js j).f j→befJ S.js (jOf S.js j).f j=((befJ S.js (jOf S.js j).f j).toNat:Int):=fun h=>by omega
  have hb7:(befJ S.js (jOf S.js j).f j).toNat < 7:=by rcases hb with ⟨e,_⟩|⟨k,e,hk,_⟩ <;> omega
  unfold Dr.av
  refine ACalls.forget (ACalls.of tab mixed Tryz.call135 Tryz.func135 rfl (fi:=⟨24,[],[3,4],none,[]⟩) rfl rfl (Nat.le_of_ble_eq_true rfl) (by decide) ?_)
  unfold startA
  try simp only[go_sem]
  repeat' (first|refine st_seq_reg rfl (by first|(simp only[go_sem];rfl)|rfl) (by first|(simp only[go_sem];rfl)|rfl) ?_|refine st_op ?_|refine st_det rfl (by simp (disch:=omega) only[go_sem,wr_i64,if_yes,if_no,↓reduceIte,reduceAdd,reduceMul,reduceEqDiff,Nat.reduceBEq,reduceLeDiff];rfl) ?_|(refine st_pureE (by first|(simp (disch:=omega) only[go_sem];rfl)|rfl) rfl (c100 S j hj h7) (by first|(simp only[go_sem];rfl)|rfl) (by intro n;first|(simp (disch:=omega) only[go_sem];rfl)|rfl) ?_;intro n hn)|(refine st_pureE (by first|(simp (disch:=omega) only[go_sem];rfl)|rfl) rfl (c132 x j hp (by omega)) (by first|(simp only[go_sem];rfl)|rfl) (by intro n;first|(simp (disch:=omega) only[go_sem];rfl)|rfl) ?_;intro n hn)|(refine st_pureE (by first|(simp (disch:=omega) only[go_sem];rfl)|rfl) rfl (by rw [hbn (by omega)];exact c132 x _ hp hb7) (by first|(simp only[go_sem];rfl)|rfl) (by intro n;first|(simp (disch:=omega) only[go_sem];rfl)|rfl) ?_;intro n hn)|refine st_gT rfl rfl rfl ?_|refine st_gF rfl rfl rfl ?_|(refine st_gS rfl rfl ?_ ?_ <;> intro hg <;> (try simp only[decide_eq_true_eq,decide_eq_false_iff_not,Bool.not_eq_true',Bool.not_eq_false'] at hg))|refine st_nil ?_|refine st_ret ?_)
  all_goals
    simp (disch:=omega) only[AEnd,Tryz.results135,aresK,fin,go_sem,↓reduceIte,reduceEqDiff,reduceAdd,reduceLeDiff,if_yes,if_no,implies_true,true_and,and_true,List.reverse_cons,List.reverse_nil]
    try simp [readyD, *]
theorem Dr.av_with {S:Sp} {x:Dr} (z:x.Sz S) {j w:Nat} (hw:w < 4) (hj:j < 7) (hf:(jOf S.js j).f.toNat < 7) :
    (withD S.js x j w).av=.agg (dC (upd (ixF x.day) j (withD S.js x j w).last) ((x.pl ||| 2 ^ j:Nat):Int) (upd (ixF x.hands) w ((withD S.js x j w).last+(jOf S.js j).d)) (upd (ixF x.fls) (jOf S.js j).f.toNat ((withD S.js x j w).last+(jOf S.js j).d)) (withD S.js x j w).last):=by
  unfold Dr.av
  rw [← ixF_set (by rw [z.day];exact hj),← ixF_set (by rw [z.hands];exact hw),← ixF_set (by rw [z.fls];exact hf)]
  rfl
theorem c136 (S:Sp) (x:Dr) (j w:Nat) (hS:S.Ok) (z:x.Sz S) (hj:j < S.js.length) (hw:w < S.ws.length) (hl:∀ i,0≤x.hands.getD i 0∧x.hands.getD i 0≤1000) (hf:∀ i,0≤x.fls.getD i 0∧x.fls.getD i 0≤1000) :
    Pure Tryz.prog 136 [x.av,S.av,.int .i64 j,.int .i64 w] (fun v=>v=(withD S.js x j w).av):=by
  have h7:=hS.n7
  have h4:=hS.m4
  have hjk:(jOf S.js j).Ok:=hS.j hj
  unfold Jb.Ok at hjk
  have hp:x.pl < 128:=Nat.lt_of_lt_of_le z.pl (Nat.pow_le_pow_right (by omega:0 < 2) h7)
  have hw4:w < 4:=by omega
  have hf7:(jOf S.js j).f.toNat < 7:=by omega
  have hb1:0≤ixF x.hands w∧ixF x.hands w≤1000:=hl w
  have hb2:0≤ixF x.fls (jOf S.js j).f.toNat∧ixF x.fls (jOf S.js j).f.toNat≤1000:=hf _
  rw [Dr.av_with z hw4 (by omega) hf7]
  have hlast:(withD S.js x j w).last=max (ixF x.hands w) (ixF x.fls (jOf S.js j).f.toNat):=rfl
  rw [hlast]
  have hput:=putI hp (show j < 7 by omega)
  intro h
  unfold Dr.av
  refine ACalls.forget (ACalls.of tab mixed Tryz.call136 Tryz.func136 rfl (fi:=⟨55,[8,9],[5],none,[(2,[0,0,3,7,0,16,0,112,240,511,1023,2047],[(0,false),(1,false),(2,false),(3,false),(4,false),(5,true),(6,false),(7,false),(8,false),(9,false),(10,false),(11,false)]),(4,[0,0,2,0,8,0,32,120,0,256,0,1024,3840,0,9209,25593,0,131071,262143],[(0,false),(1,false),(2,true),(3,false),(4,false),(5,false),(6,true),(7,false),(8,false),(9,false),(10,false),(11,true),(12,false),(13,false),(14,false),(16,false),(15,true),(17,false),(18,true)]),(5,[0,1,0,4,15,31,63],[(0,false),(1,false),(2,false),(3,false),(4,false),(5,false),(6,false)])]⟩) rfl rfl (Nat.le_of_ble_eq_true rfl) (by decide) ?_)
  unfold startA
  try simp only[go_sem]
  repeat' (first|refine st_seq_reg rfl (by first|(simp only[go_sem,hput,Nat.mul_one,Nat.zero_add,List.append_nil];rfl)|rfl) (by first|(simp only[go_sem,hput,Nat.mul_one,Nat.zero_add,List.append_nil];rfl)|rfl) ?_|refine st_seq_draw rfl (by first|(simp only[go_sem,hput,Nat.mul_one,Nat.zero_add,List.append_nil];rfl)|rfl) (by first|(simp only[go_sem,hput,Nat.mul_one,Nat.zero_add,List.append_nil];rfl)|rfl) ?_|refine st_op ?_|refine st_det rfl (by simp (disch:=omega) only[go_sem,wr_i64,if_yes,if_no,↓reduceIte,reduceAdd,reduceMul,reduceEqDiff,Nat.reduceBEq,reduceLeDiff,hput,Nat.mul_one,Nat.zero_add,List.append_nil];rfl) ?_|refine st_dop rfl ?_|refine st_loc rfl (by simp (disch:=omega) only[go_sem,wr_i64,if_yes,if_no,↓reduceIte,reduceAdd,reduceMul,reduceEqDiff,Nat.reduceBEq,reduceLeDiff,hput,Nat.mul_one,Nat.zero_add,List.append_nil];rfl) ?_|refine st_heap rfl (by simp (disch:=omega) only[go_sem,wr_i64,if_yes,if_no,↓reduceIte,reduceAdd,reduceMul,reduceEqDiff,Nat.reduceBEq,reduceLeDiff,hput,Nat.mul_one,Nat.zero_add,List.append_nil];rfl) ?_|refine st_store (by simp (disch:=omega) only[go_sem,wr_i64,if_yes,if_no,↓reduceIte,reduceAdd,reduceMul,reduceEqDiff,Nat.reduceBEq,reduceLeDiff,hput,Nat.mul_one,Nat.zero_add,List.append_nil];rfl) ?_|refine st_nil ?_|refine st_dnil ?_|refine st_ret ?_)
  simp (disch:=omega) only[AEnd,Tryz.results136,aresK,fin,go_sem,↓reduceIte,reduceEqDiff,reduceAdd,reduceLeDiff,if_yes,if_no,implies_true,true_and,and_true,List.reverse_cons,List.reverse_nil]
  exact fun b hb=>if_neg (fun e=>by rw [e] at hb;exact absurd hb (Nat.lt_irrefl _))
theorem c109 (a:Int):Pure Tryz.prog 109 [.int .i64 a] (fun v=>v=.bool false):=by
  intro h
  refine ACalls.forget (ACalls.of tab mixed Tryz.call109 Tryz.func109 rfl (fi:=⟨6,[],[],none,[]⟩) rfl rfl (Nat.le_of_ble_eq_true rfl) (by decide) ?_)
  unfold startA
  repeat' (first|refine st_seq_reg rfl (by first|(simp only[go_sem];rfl)|rfl) (by first|(simp only[go_sem];rfl)|rfl) ?_|refine st_op ?_|refine st_det rfl (by simp (disch:=omega) only[go_sem,wr_i64,if_yes,if_no,↓reduceIte,reduceAdd,reduceMul,reduceEqDiff,Nat.reduceBEq,reduceLeDiff];rfl) ?_|refine st_nil ?_|refine st_ret ?_)
  simp (disch:=omega) only[AEnd,Tryz.results109,aresK,fin,go_sem,↓reduceIte,reduceEqDiff,reduceAdd,reduceLeDiff,if_yes,if_no,implies_true,true_and,and_true,List.reverse_cons,List.reverse_nil]
  simp
def cmpI (a b:Int):Int:=if a < b then -1 else if a > b then 1 else 0
theorem cmpI_0 {a b:Int} (h:cmpI a b=0):¬ a < b∧¬ a > b:=by
  unfold cmpI at h
  split at h
  · omega
  · split at h
    · omega
    · exact ⟨by assumption,by assumption⟩
theorem c76 (a b:Int):Pure Tryz.prog 76 [.int .i64 a,.int .i64 b] (fun v=>v=.int .i64 (cmpI a b)):=by
  intro h
  refine ACalls.forget (ACalls.of tab mixed Tryz.call76 Tryz.func76 rfl (fi:=⟨20,[],[],none,[]⟩) rfl rfl (Nat.le_of_ble_eq_true rfl) (by decide) ?_)
  unfold startA
  repeat' (first|refine st_seq_reg rfl (by first|(simp only[go_sem];rfl)|rfl) (by first|(simp only[go_sem];rfl)|rfl) ?_|refine st_op ?_|refine st_det rfl (by simp (disch:=omega) only[go_sem,wr_i64,if_yes,if_no,↓reduceIte,reduceAdd,reduceMul,reduceEqDiff,Nat.reduceBEq,reduceLeDiff];rfl) ?_|(refine st_pureE (by first|(simp (disch:=omega) only[go_sem];rfl)|rfl) rfl (c109 _) (by first|(simp only[go_sem];rfl)|rfl) (by intro n;first|(simp (disch:=omega) only[go_sem];rfl)|rfl) ?_;intro n hn)|refine st_condF rfl ?_|(refine st_condS rfl ?_ ?_ <;> intro hg <;> (try simp only[decide_eq_true_eq,decide_eq_false_iff_not,Bool.not_eq_true',Bool.not_eq_false'] at hg))|refine st_nil ?_|refine st_tN ?_|refine st_seq ?_|refine st_skip ?_|refine st_ret ?_|refine st_tR ?_)
  · simp (disch:=omega) only[AEnd,Tryz.results76,aresK,fin,go_sem,↓reduceIte,reduceEqDiff,reduceAdd,reduceLeDiff,if_yes,if_no,implies_true,true_and,and_true,List.reverse_cons,List.reverse_nil]
    unfold cmpI;rw [if_pos (by omega)]
  · simp (disch:=omega) only[AEnd,Tryz.results76,aresK,fin,go_sem,↓reduceIte,reduceEqDiff,reduceAdd,reduceLeDiff,if_yes,if_no,implies_true,true_and,and_true,List.reverse_cons,List.reverse_nil]
    unfold cmpI;rw [if_neg (by omega),if_pos (by omega)]
  · simp (disch:=omega) only[AEnd,Tryz.results76,aresK,fin,go_sem,↓reduceIte,reduceEqDiff,reduceAdd,reduceLeDiff,if_yes,if_no,implies_true,true_and,and_true,List.reverse_cons,List.reverse_nil]
    unfold cmpI;rw [if_neg (by omega),if_neg (by omega)]
def cmpL:List Int→List Int→Int
  | [],[]=>0
  | [],_ :: _=>-1
  | _ :: _,[]=>1
  | a :: l,b :: k=>if a < b then -1 else if a > b then 1 else cmpL l k
theorem cmpL_lex:∀ (a b:List Int),0≤cmpL a b ↔ lexLt a b=false
  | [],[]=>by simp [cmpL,lexLt]
  | [],_ :: _=>by simp [cmpL,lexLt]
  | _ :: _,[]=>by simp [cmpL,lexLt]
  | a :: l,b :: k=>by
    have e1:cmpL (a :: l) (b :: k)=if a < b then -1 else if a > b then 1 else cmpL l k:=rfl
    have e2:lexLt (a :: l) (b :: k)=if a=b then lexLt l k else decide (a < b):=rfl
    rw [e1,e2]
    by_cases h1:a < b
    · rw [if_pos h1,if_neg (by omega)];simp [h1]
    · rw [if_neg h1]
      by_cases h2:a > b
      · rw [if_pos h2,if_neg (by omega)];simp;omega
      · have e:a=b:=by omega
        subst e
        rw [if_neg h2,if_pos rfl]
        exact cmpL_lex l k
theorem cmpL_drop {a b:List Int} {i:Nat} (ha:i < a.length) (hb:i < b.length):cmpL (a.drop i) (b.drop i)=if a.getD i 0 < b.getD i 0 then -1 else if a.getD i 0 > b.getD i 0 then 1 else cmpL (a.drop (i+1)) (b.drop (i+1)):=by
  rw [drop_getD 0 ha,drop_getD 0 hb];rfl
def mxN (es:List Int):Nat→Int
  | 0=>es.getD 0 0
  | i+1=>max (mxN es i) (es.getD (i+1) 0)
theorem mxN_take {es:List Int}:∀ i,i < es.length→mxN es i=maxL (es.take (i+1)):=by
  intro i
  induction i with
  | zero=>intro h;cases es with
    | nil=>simp at h
    | cons a l=>simp [mxN,maxL]
  | succ i ih =>
    intro h
    rw [mxN,ih (by omega)]
    cases es with
    | nil=>simp at h
    | cons a l =>
      have hi:i < l.length:=by simpa using h
      simp only[List.take_succ_cons,maxL]
      rw [List.take_succ_eq_append_getElem hi,List.foldl_append]
      simp [List.getD_eq_getElem?_getD,hi]
theorem c133 (es:List Int) (h0:es ≠ []) (hl:(es.length:Int) < 1000000):Pure Tryz.prog 133 [.lst 1 (es.map iv)] (fun v=>v=.int .i64 (maxL es)):=by
  have h1:0 < es.length:=List.length_pos_iff.2 h0
  intro h
  refine ACalls.forget (ACalls.of tab mixed Tryz.call133 Tryz.func133 rfl (fi:=⟨25,[],[],none,[]⟩) rfl rfl (Nat.le_of_ble_eq_true rfl) (by decide) ?_)
  unfold startA
  repeat' (first|refine st_seq_reg rfl (by first|(simp only[go_sem];rfl)|rfl) (by first|(simp only[go_sem];rfl)|rfl) ?_|refine st_reg rfl (by first|(simp only[go_sem];rfl)|rfl) (by first|(simp only[go_sem];rfl)|rfl) ?_|refine st_op ?_|refine st_det rfl (by simp (disch:=omega) only[go_sem,wr_i64,if_yes,if_no,↓reduceIte,reduceAdd,reduceMul,reduceEqDiff,Nat.reduceBEq,reduceLeDiff];rfl) ?_|(refine st_condS rfl ?_ ?_ <;> intro hg <;> (try simp only[decide_eq_true_eq,decide_eq_false_iff_not,Bool.not_eq_true',Bool.not_eq_false'] at hg))|refine st_nil ?_|refine st_tN ?_|refine st_seq ?_|refine st_block ?_|refine st_skip ?_)
  all_goals try (exfalso;omega)
  refine st_loopC (α:=Nat) tab mixed [] [] (by repeat (first|exact trivial|refine ⟨rfl,?_⟩)) [] [] (by repeat (first|exact trivial|refine ⟨rfl,?_⟩)) (fun i=>[(4,.int .i64 i),(3,.int .i64 (mxN es (i - 1)))]) [(0,_),(2,_)] (fun _=>[]) [] (fun i=>1≤i∧i≤es.length) (fun i=>es.length - i) (by decide) 1 ⟨Nat.le_refl _,by omega⟩ (by (try simp only[go_sem]);repeat' (first|exact trivial|refine And.intro ?_ ?_|rfl|(simp (disch:=omega) only[go_sem,if_yes,if_no,↓reduceIte,reduceAdd,reduceMul,reduceEqDiff,Nat.reduceBEq,reduceLeDiff];rfl)|(simp (disch:=omega) only[go_sem,if_yes,if_no,↓reduceIte,reduceAdd,reduceMul,reduceEqDiff,Nat.reduceBEq,reduceLeDiff]))) (by (try simp only[go_sem]);repeat' (first|exact trivial|refine And.intro ?_ ?_|rfl|(simp (disch:=omega) only[go_sem,if_yes,if_no,↓reduceIte,reduceAdd,reduceMul,reduceEqDiff,Nat.reduceBEq,reduceLeDiff];rfl)|(simp (disch:=omega) only[go_sem,if_yes,if_no,↓reduceIte,reduceAdd,reduceMul,reduceEqDiff,Nat.reduceBEq,reduceLeDiff]))) (by first|(simp only[go_sem];rfl)|rfl) (by intro n;simp only[go_sem];rfl) ?_
  rintro i c ⟨hi1,hi'⟩ hc
  simp only[go_sem]
  repeat' (first|refine st_seq_reg rfl (by first|(simp only[go_sem];rfl)|rfl) (by first|(simp only[go_sem];rfl)|rfl) ?_|refine st_reg rfl (by first|(simp only[go_sem];rfl)|rfl) (by first|(simp only[go_sem];rfl)|rfl) ?_|refine st_op ?_|refine st_det rfl (by simp (disch:=omega) only[go_sem,wr_i64,if_yes,if_no,↓reduceIte,reduceAdd,reduceMul,reduceEqDiff,Nat.reduceBEq,reduceLeDiff];rfl) ?_|(refine st_condS rfl ?_ ?_ <;> intro hg <;> (try simp only[decide_eq_true_eq,decide_eq_false_iff_not,Bool.not_eq_true',Bool.not_eq_false'] at hg))|refine st_nil ?_|refine st_tN ?_|refine st_seq ?_|refine st_block ?_|refine st_skip ?_|refine st_exit ?_|refine st_ret ?_|refine st_tE ?_|refine st_bN ?_|refine st_bH ?_)
  · have e:mxN es i=max (mxN es (i - 1)) (es.getD i 0):=by
      obtain ⟨j,rfl⟩:∃ j,i=j+1:=⟨i - 1,by omega⟩
      rfl
    refine ⟨i+1,⟨by omega,by omega⟩,by omega,(by (try (rw [Nat.add_sub_cancel,e]));repeat' (first|exact trivial|refine And.intro ?_ ?_|rfl|(simp (disch:=omega) only[go_sem,if_yes,if_no,↓reduceIte,reduceAdd,reduceMul,reduceEqDiff,Nat.reduceBEq,reduceLeDiff];rfl)|(simp (disch:=omega) only[go_sem,if_yes,if_no,↓reduceIte,reduceAdd,reduceMul,reduceEqDiff,Nat.reduceBEq,reduceLeDiff]))),(by (try (rw [Nat.add_sub_cancel,e]));repeat' (first|exact trivial|refine And.intro ?_ ?_|rfl|(simp (disch:=omega) only[go_sem,if_yes,if_no,↓reduceIte,reduceAdd,reduceMul,reduceEqDiff,Nat.reduceBEq,reduceLeDiff];rfl)|(simp (disch:=omega) only[go_sem,if_yes,if_no,↓reduceIte,reduceAdd,reduceMul,reduceEqDiff,Nat.reduceBEq,reduceLeDiff]))),rfl,(by first|exact HOld.of _ (by omega)|exact HOld.put _ _ _ (by omega))⟩
  · have e:i=es.length:=by omega
    rw [mxN_take (i - 1) (by omega),show i - 1+1=es.length by omega,List.take_length]
    simp (disch:=omega) only[AEnd,Tryz.results133,aresK,fin,go_sem,↓reduceIte,reduceEqDiff,reduceAdd,reduceLeDiff,if_yes,if_no,implies_true,true_and,and_true,List.reverse_cons,List.reverse_nil]
end Go.Proofs.YtaijkalhkgjakaaGreatDoor
