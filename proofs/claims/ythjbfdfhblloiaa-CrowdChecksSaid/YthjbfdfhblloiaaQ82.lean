/- Contracts of functions that the claim reaches: what each call gives, told in our own logic. Conditions: those of each theorem. -/
import Derived.Test.YthjbfdfhblloiaaBaseC
import Derived.Test.YthjbfdfhblloiaaBaseD
import Derived.Test.YthjbfdfhblloiaaQ60
import Derived.Test.YthjbfdfhblloiaaQ77
import Derived.Test.YthjbfdfhblloiaaQ59
open Nat (reduceAdd reduceMul reduceEqDiff reduceLeDiff)
open List (length_map)
set_option linter.all false
set_option linter.unusedSimpArgs false
set_option linter.unusedVariables false
namespace Go.Proofs.Ythjbfdfhblloiaa
open Go.Av
attribute [local irreducible] thenA blockA awp awpOps awpD awp1
set_option maxHeartbeats 8000000
set_option maxRecDepth 20000
theorem c20 (l:List Rn) (hl:l.length < 1000000):Pure Try.prog 20 [.lst 4 (l.map Rn.row)] (fun v=>v=.lst 4 (l.map Rn.row)):=by
  refine Pure.give Try.call20 fun h hall=>?_
  refine (c20h l hl h).mono ?_
  rintro v h' ⟨bb,n,rfl,h1,h2,rfl⟩
  refine ⟨fun b' hb'=>?_,rfl,.inr ⟨bb,⟨4,l.map Rn.row⟩,h1,by simp only[go_sem,↓reduceIte],?_⟩⟩
  · simp only[go_sem]
    rw [if_neg (fun e=>by rw [e] at hb';omega)]
  · have e:=frz_lst (b:=bb) (z:=4) (l:=l.map Rn.row)
    rw [length_map] at e
    exact e
theorem provedV_two (t:Tw) (most:Int) (p:List Rn):∃ (b:Bool) (e:Int),provedV t most p=.tup [.bool b,.int .i64 e]:=by
  unfold provedV
  split
  · exact ⟨_,_,rfl⟩
  · split
    · exact ⟨_,_,rfl⟩
    · exact ⟨_,_,rfl⟩
theorem proveV_lt (t:Tw) (most:Int) (h6:chkE t=0→t.sts.length≤6):∃ (L:List Rn) (e:Int),proveV t most=.tup [.lst 4 (L.map Rn.row),.int .i64 e]∧L.length≤1000:=by
  by_cases h0:chkE t=0
  · have hs6:=h6 h0
    by_cases h1:0≤most∧most≤12
    · have hE:proveV t most=prvV t most.toNat:=by unfold proveV;rw [if_neg (fun e=>e h0),if_neg (fun e=>e h1)]
      rw [hE]
      cases hc:clo t most.toNat with
      | some A=>exact ⟨[],7,by unfold prvV;rw [hc];rfl,by decide⟩
      | none =>
        refine ⟨_,0,by unfold prvV;rw [hc],?_⟩
        have hpl:=prv_len t (most.toNat:Nat) (t.sts.length+1) (List.replicate t.sts.length 0)
        have h2:(2:Nat) ^ (t.sts.length+1)≤2 ^ 7:=Nat.pow_le_pow_right (by decide) (by omega)
        omega
    · exact ⟨[],2,by unfold proveV;rw [if_neg (fun e=>e h0),if_pos h1];rfl,by decide⟩
  · exact ⟨[],chkE t,by unfold proveV;rw [if_pos h0];rfl,by decide⟩
def rowP (r:List Rn):List AV:=[.lst 4 (r.map Rn.row)]
def pel (l:List (List Rn)) (i:Nat):List Rn:=l.getD i []
theorem rowP_getD {l:List (List Rn)} {i:Nat} (h:i < l.length):(l.map rowP).getD i []=[.lst 4 ((pel l i).map Rn.row)]:=by
  simp [pel,rowP,List.getD_eq_getElem?_getD,h]
def M4 (p r:Int):List Int:=[p,r,r,p]
def P4 (a b c:List Rn):List (List Rn):=[a,b,c,b]
theorem law3 (x:Tw) (most:Int) (p:List Rn) (r0:Rn) (at_:Int) (l:List Int) (hx:x.small) (hm0:I64 most) (hp0:p.length≤maxLen) (hat:I64 at_) (hl:(l.length:Int)≤9223372036854775807) (h:AH):ACalls Try.prog 3 [x.av,.int .i64 most,.lst 4 (p.map Rn.row),  .agg r0.row,.int .i64 at_,.lst 1 (l.map iv)] h (fun v _=>v=.bool true):=by
  have k15:=c15
  unfold maxLen at hp0
  by_cases h200:p.length≤200
  case neg =>
    refine ACalls.of tab mixed Try.call3 Try.func3 rfl (fi:=⟨149,[14,23],[6,9,69,74,79,1000010],none,[(9,[0,0,0,4,14,0,63,127],[(0,false),(1,false),(2,false),(3,false),(5,true),(4,false),(6,false),(7,false)]),(14,[0,0,3,7,15,0,0,96,224,511,0,2047,4095],[(0,false),(1,false),(2,false),(3,true),(5,false),(6,false),(7,false),(8,true),(10,false),(4,false),(9,false),(11,false),(12,false)]),(15,[0,0,0,6,14,0,63,127,255,255,511,2047],[(0,true),(1,false),(2,false),(3,false),(4,true),(5,false),(6,false),(7,false),(8,false),(9,false),(10,false),(11,false)]),(16,[0,0,3,7,0,0,48,112,0,0,768,1792,4095,8191,16383,16383,32767,131071],[(0,false),(1,false),(2,false),(3,true),(4,false),(5,false),(6,false),(7,true),(8,false),(9,false),(10,false),(11,true),(12,false),(13,false),(14,false),(15,false),(16,false),(17,false)]),(17,[0,0,3,7,15,15,63,127,255,511,511,511,3583,7679,16383,32767,65535,131071,262143,262143,262143,1835007,3932159,8388607,16777215,33554431],[(0,false),(1,false),(2,false),(3,false),(4,false),(5,false),(6,false),(7,false),(8,false),(9,true),(10,false),(11,false),(12,false),(13,true),(14,false),(15,false),(16,false),(17,false),(18,false),(19,false),(20,false),(21,false),(22,true),(23,false),(24,false),(25,false)])]⟩) rfl rfl (Nat.le_of_ble_eq_true rfl) (by decide) ?_
    unfold startA
    repeat' (first|refine st_seq_reg rfl (by first|(simp only[go_sem,length_map];rfl)|rfl) (by first|(simp only[go_sem,length_map];rfl)|rfl) ?_|refine st_op ?_|refine st_det rfl (by simp (disch:=omega) only[go_sem,wr_i64,if_yes,if_no,↓reduceIte,reduceAdd,reduceMul,reduceEqDiff,Nat.reduceBEq,reduceLeDiff,length_map];rfl) ?_|(refine st_pure (by first|(simp (disch:=omega) only[go_sem,length_map];rfl)|rfl) rfl (c14 x 12 hx) (by first|(simp only[go_sem,length_map];rfl)|rfl) (by intro n;first|(simp (disch:=omega) only[go_sem];rfl)|rfl) ?_;rintro v n ⟨r,rfl,hr⟩ hn)|(refine st_pureE (by first|(simp (disch:=omega) only[go_sem,length_map];rfl)|rfl) rfl (k15) (by first|(simp only[go_sem,length_map];rfl)|rfl) (by intro n;first|(simp (disch:=omega) only[go_sem];rfl)|rfl) ?_;intro n hn)|refine st_gT rfl rfl rfl ?_|refine st_gF rfl rfl rfl ?_|(refine st_gS rfl rfl ?_ ?_ <;> intro hg <;> (try simp only[decide_eq_true_eq,decide_eq_false_iff_not,Bool.not_eq_true',Bool.not_eq_false'] at hg))|refine st_condT rfl ?_|(refine st_condS rfl ?_ ?_ <;> intro hg <;> (try simp only[decide_eq_true_eq,decide_eq_false_iff_not,Bool.not_eq_true',Bool.not_eq_false'] at hg))|refine st_nil ?_|refine st_tN ?_|refine st_seq ?_|refine st_skip ?_|refine st_ret ?_|refine st_tR ?_)
    all_goals try (exfalso;omega)
    all_goals
      simp (disch:=omega) only[AEnd,Try.results3,aresK,fin,go_sem,↓reduceIte,reduceEqDiff,reduceAdd,reduceLeDiff,if_yes,if_no,implies_true,true_and,and_true,List.reverse_cons,List.reverse_nil]
  refine ACalls.of tab mixed Try.call3 Try.func3 rfl (fi:=⟨149,[14,23],[6,9,69,74,79,1000010],none,[(9,[0,0,0,4,14,0,63,127],[(0,false),(1,false),(2,false),(3,false),(5,true),(4,false),(6,false),(7,false)]),(14,[0,0,3,7,15,0,0,96,224,511,0,2047,4095],[(0,false),(1,false),(2,false),(3,true),(5,false),(6,false),(7,false),(8,true),(10,false),(4,false),(9,false),(11,false),(12,false)]),(15,[0,0,0,6,14,0,63,127,255,255,511,2047],[(0,true),(1,false),(2,false),(3,false),(4,true),(5,false),(6,false),(7,false),(8,false),(9,false),(10,false),(11,false)]),(16,[0,0,3,7,0,0,48,112,0,0,768,1792,4095,8191,16383,16383,32767,131071],[(0,false),(1,false),(2,false),(3,true),(4,false),(5,false),(6,false),(7,true),(8,false),(9,false),(10,false),(11,true),(12,false),(13,false),(14,false),(15,false),(16,false),(17,false)]),(17,[0,0,3,7,15,15,63,127,255,511,511,511,3583,7679,16383,32767,65535,131071,262143,262143,262143,1835007,3932159,8388607,16777215,33554431],[(0,false),(1,false),(2,false),(3,false),(4,false),(5,false),(6,false),(7,false),(8,false),(9,true),(10,false),(11,false),(12,false),(13,true),(14,false),(15,false),(16,false),(17,false),(18,false),(19,false),(20,false),(21,false),(22,true),(23,false),(24,false),(25,false)])]⟩) rfl rfl (Nat.le_of_ble_eq_true rfl) (by decide) ?_
  unfold startA
  simp only[Rn.row_eq]
  repeat' (first|refine st_seq_reg rfl (by first|(simp only[go_sem,length_map];rfl)|rfl) (by first|(simp only[go_sem,length_map];rfl)|rfl) ?_|refine st_op ?_|refine st_det rfl (by simp (disch:=omega) only[go_sem,wr_i64,if_yes,if_no,↓reduceIte,reduceAdd,reduceMul,reduceEqDiff,Nat.reduceBEq,reduceLeDiff,length_map];rfl) ?_|(refine st_pure (by first|(simp (disch:=omega) only[go_sem,length_map];rfl)|rfl) rfl (c14 x 12 hx) (by first|(simp only[go_sem,length_map];rfl)|rfl) (by intro n;first|(simp (disch:=omega) only[go_sem];rfl)|rfl) ?_;rintro v n ⟨r,rfl,hr⟩ hn)|(refine st_pureE (by first|(simp (disch:=omega) only[go_sem,length_map];rfl)|rfl) rfl (k15) (by first|(simp only[go_sem,length_map];rfl)|rfl) (by intro n;first|(simp (disch:=omega) only[go_sem];rfl)|rfl) ?_;intro n hn)|refine st_gT rfl rfl rfl ?_|refine st_gF rfl rfl rfl ?_|(refine st_gS rfl rfl ?_ ?_ <;> intro hg <;> (try simp only[decide_eq_true_eq,decide_eq_false_iff_not,Bool.not_eq_true',Bool.not_eq_false'] at hg))|refine st_condT rfl ?_|(refine st_condS rfl ?_ ?_ <;> intro hg <;> (try simp only[decide_eq_true_eq,decide_eq_false_iff_not,Bool.not_eq_true',Bool.not_eq_false'] at hg))|refine st_nil ?_|refine st_tN ?_|refine st_seq ?_|refine st_skip ?_|refine st_ret ?_|refine st_tR ?_)
  all_goals try (exfalso;omega)
  · simp (disch:=omega) only[AEnd,Try.results3,aresK,fin,go_sem,↓reduceIte,reduceEqDiff,reduceAdd,reduceLeDiff,if_yes,if_no,implies_true,true_and,and_true,List.reverse_cons,List.reverse_nil]
  have hV:=hr (by assumption)
  repeat' (first|refine st_seq_reg rfl (by first|(simp only[go_sem,length_map];rfl)|rfl) (by first|(simp only[go_sem,length_map];rfl)|rfl) ?_|refine st_op ?_|refine st_det rfl (by simp (disch:=omega) only[go_sem,wr_i64,if_yes,if_no,↓reduceIte,reduceAdd,reduceMul,reduceEqDiff,Nat.reduceBEq,reduceLeDiff,length_map];rfl) ?_|refine st_loc rfl (by simp (disch:=omega) only[go_sem,wr_i64,if_yes,if_no,↓reduceIte,reduceAdd,reduceMul,reduceEqDiff,Nat.reduceBEq,reduceLeDiff,length_map];rfl) ?_|refine st_store (by simp (disch:=omega) only[go_sem,wr_i64,if_yes,if_no,↓reduceIte,reduceAdd,reduceMul,reduceEqDiff,Nat.reduceBEq,reduceLeDiff,length_map];rfl) ?_|(refine st_callf rfl rfl (c16 l hl _) ?_;rintro v h' ⟨b,x0,n,rfl,hb1,hb2,hu0,rfl⟩)|(refine st_drum (by first|(simp (disch:=omega) only[go_sem,length_map];rfl)|rfl) rfl (c17 b 4 5 5 (by decide) (by decide) (by decide)) (by first|(simp (disch:=omega) only[go_sem,length_map];rfl)|rfl) (by assumption) (by first|(simp only[go_sem,length_map];rfl)|rfl) (by intro x' n;first|(simp (disch:=omega) only[go_sem];rfl)|rfl) ?_;rintro v x' n hu' ⟨t,rfl,hG⟩ hn)|refine st_nil ?_)
  have hT:=hG.ok (by decide) (by decide) (by decide)
  have hsn:=hG.sn
  have hwr:wr .i64 ((t.sts.length:Int)+1)=(t.sts.length:Int)+1:=wr_i64 (by omega)
  repeat' (first|refine st_seq_reg rfl (by first|(simp only[go_sem,length_map,hwr];rfl)|rfl) (by first|(simp only[go_sem,length_map,hwr];rfl)|rfl) ?_|refine st_op ?_|refine st_det rfl (by simp (disch:=omega) only[go_sem,wr_i64,if_yes,if_no,↓reduceIte,reduceAdd,reduceMul,reduceEqDiff,Nat.reduceBEq,reduceLeDiff,length_map,hwr];rfl) ?_|(refine st_drum (by first|(simp (disch:=omega) only[go_sem,length_map,hwr];rfl)|rfl) rfl (c18' b (t.sts.length+1:Int) (by omega)) (by first|(simp (disch:=omega) only[go_sem,length_map,hwr];rfl)|rfl) (by assumption) (by first|(simp only[go_sem,length_map,hwr];rfl)|rfl) (by intro x' n;first|(simp (disch:=omega) only[go_sem];rfl)|rfl) ?_;rintro v x' n hu' ⟨r1,rfl,hr1⟩ hn)|refine st_nil ?_)
  have k19:=c19 t r1 (fun _=>by omega)
  obtain ⟨L,e2,hL,hLl⟩:=proveV_lt t r1 (fun _=>by omega)
  rw [hL] at k19
  have k21:=c21 at_ (L.length:Int) (by omega) hat
  have hf1:0 < L.length→0≤fitV at_ (L.length:Int)∧fitV at_ (L.length:Int) < L.length:=fun e=>fitV_bd (x:=at_) (n:=(L.length:Int)) (by omega)
  generalize fitV at_ (L.length:Int)=f at *
  have hset0:¬ 0 < L.length→L.set f.toNat r0=L:=fun e=>by
    rw [List.eq_nil_of_length_eq_zero (show L.length=0 by omega)];rfl
  repeat' (first|refine st_seq_reg rfl (by first|(simp only[go_sem,length_map,Nat.zero_add];rfl)|rfl) (by first|(simp only[go_sem,length_map,Nat.zero_add];rfl)|rfl) ?_|refine st_draw rfl (by first|(simp only[go_sem,length_map,Nat.zero_add];rfl)|rfl) (by first|(simp only[go_sem,length_map,Nat.zero_add];rfl)|rfl) ?_|refine st_op ?_|refine st_det rfl (by simp (disch:=omega) only[go_sem,wr_i64,if_yes,if_no,↓reduceIte,reduceAdd,reduceMul,reduceEqDiff,Nat.reduceBEq,reduceLeDiff,length_map,Nat.zero_add];rfl) ?_|refine st_dop rfl ?_|refine st_store (by simp (disch:=omega) only[go_sem,wr_i64,if_yes,if_no,↓reduceIte,reduceAdd,reduceMul,reduceEqDiff,Nat.reduceBEq,reduceLeDiff,length_map,Nat.zero_add];rfl) ?_|(refine st_pureE (by first|(simp (disch:=omega) only[go_sem,length_map,Nat.zero_add];rfl)|rfl) rfl (k19) (by first|(simp only[go_sem,length_map,Nat.zero_add];rfl)|rfl) (by intro n;first|(simp (disch:=omega) only[go_sem];rfl)|rfl) ?_;intro n hn)|(refine st_pureE (by first|(simp (disch:=omega) only[go_sem,length_map,Nat.zero_add];rfl)|rfl) rfl (k21) (by first|(simp only[go_sem,length_map,Nat.zero_add];rfl)|rfl) (by intro n;first|(simp (disch:=omega) only[go_sem];rfl)|rfl) ?_;intro n hn)|(refine st_callf rfl rfl (c20h L (by omega) _) ?_;rintro v h3 ⟨b3,n3,rfl,hb3,hn3,rfl⟩)|(refine st_condS rfl ?_ ?_ <;> intro hg <;> (try simp only[decide_eq_true_eq,decide_eq_false_iff_not,Bool.not_eq_true',Bool.not_eq_false'] at hg))|refine st_nil ?_|refine st_dnil ?_|refine st_tN ?_|refine st_seq ?_|refine st_skip ?_)
  all_goals try (exfalso;omega)
  all_goals refine st_free ?_
  all_goals first
    | refine ASem.cutK 18 4 ((L.set f.toNat r0).map Rn.row) (.inr ⟨b3,by simp only[go_sem,↓reduceIte,reduceEqDiff];exact congrArg (AV.slc _ 4 0) (by simp),by simp only[go_sem,↓reduceIte,reduceEqDiff];rw [List.map_set];rfl⟩) fun H1 _ _ _=>?_
    | refine ASem.cutK 18 4 ((L.set f.toNat r0).map Rn.row) (.inr ⟨b3,by simp only[go_sem,↓reduceIte,reduceEqDiff];exact congrArg (AV.slc _ 4 0) (by simp),by rw [hset0 (by omega)];simp only[go_sem,↓reduceIte,reduceEqDiff]⟩) fun H1 _ _ _=>?_
  all_goals
    have hSl:(L.set f.toNat r0).length≤1000:=by rw [List.length_set];omega
    clear hset0 k21 hf1
    generalize L.set f.toNat r0=S at *
    refine st_run tab mixed (f2:=⟨149,[14,23],[6,9,69,74,79],none,[(9,[0,0,0,4,14,0,63,127],[(0,false),(1,false),(2,false),(3,false),(5,true),(4,false),(6,false),(7,false)]),(14,[0,0,3,7,15,0,0,96,224,511,0,2047,4095],[(0,false),(1,false),(2,false),(3,true),(5,false),(6,false),(7,false),(8,true),(10,false),(4,false),(9,false),(11,false),(12,false)]),(15,[0,0,0,6,14,0,63,127,255,255,511,2047],[(0,true),(1,false),(2,false),(3,false),(4,true),(5,false),(6,false),(7,false),(8,false),(9,false),(10,false),(11,false)]),(16,[0,0,3,7,0,0,48,112,0,0,768,1792,4095,8191,16383,16383,32767,131071],[(0,false),(1,false),(2,false),(3,true),(4,false),(5,false),(6,false),(7,true),(8,false),(9,false),(10,false),(11,true),(12,false),(13,false),(14,false),(15,false),(16,false),(17,false)]),(17,[0,0,3,7,15,15,63,127,255,511,511,511,3583,7679,16383,32767,65535,131071,262143,262143,262143,1835007,3932159,8388607,16777215,33554431],[(0,false),(1,false),(2,false),(3,false),(4,false),(5,false),(6,false),(7,false),(8,false),(9,true),(10,false),(11,false),(12,false),(13,true),(14,false),(15,false),(16,false),(17,false),(18,false),(19,false),(20,false),(21,false),(22,true),(23,false),(24,false),(25,false)])]⟩) rfl rfl (by decide) ?_
    repeat' (first|refine st_seq_reg rfl (by first|(simp only[go_sem,length_map];rfl)|rfl) (by first|(simp only[go_sem,length_map];rfl)|rfl) ?_|refine st_reg rfl (by first|(simp only[go_sem,length_map];rfl)|rfl) (by first|(simp only[go_sem,length_map];rfl)|rfl) ?_|refine st_op ?_|refine st_det rfl (by simp (disch:=omega) only[go_sem,wr_i64,if_yes,if_no,↓reduceIte,reduceAdd,reduceMul,reduceEqDiff,Nat.reduceBEq,reduceLeDiff,length_map];rfl) ?_|refine st_nil ?_|refine st_tN ?_|refine st_seq ?_|refine st_block ?_)
    refine st_loopH (α:=Nat) tab mixed [] [] (by repeat (first|exact trivial|refine ⟨rfl,?_⟩)) [] [] (by repeat (first|exact trivial|refine ⟨rfl,?_⟩)) (fun i=>[(22,.int .i64 (i:Nat)),(19,.lst 4 ((T4 x t).map Tw.cells)),(20,.lst 1 ((M4 most r1).map iv)),(21,.lst 1 ((P4 p L S).map rowP))]) [(13,_)] (fun _=>[]) [] (fun _=>h00) (fun i=>i≤4) (fun i=>4 - i) (by decide) 0 (Nat.zero_le _) (by (try simp only[go_sem]);repeat' (first|exact trivial|refine And.intro ?_ ?_|rfl|(simp (disch:=omega) only[go_sem,if_yes,if_no,↓reduceIte,reduceAdd,reduceMul,reduceEqDiff,Nat.reduceBEq,reduceLeDiff];rfl)|(simp (disch:=omega) only[go_sem,if_yes,if_no,↓reduceIte,reduceAdd,reduceMul,reduceEqDiff,Nat.reduceBEq,reduceLeDiff]))) (by (try simp only[go_sem]);repeat' (first|exact trivial|refine And.intro ?_ ?_|rfl|(simp (disch:=omega) only[go_sem,if_yes,if_no,↓reduceIte,reduceAdd,reduceMul,reduceEqDiff,Nat.reduceBEq,reduceLeDiff];rfl)|(simp (disch:=omega) only[go_sem,if_yes,if_no,↓reduceIte,reduceAdd,reduceMul,reduceEqDiff,Nat.reduceBEq,reduceLeDiff]))) (hold2 _) ?_
    rintro i d i1 hd
    simp only[go_sem] at hd ⊢
    by_cases hi:i < 4
    case neg =>
      repeat' (first|refine st_seq_reg rfl (by first|(simp only[go_sem,length_map,T4_len];rfl)|rfl) (by first|(simp only[go_sem,length_map,T4_len];rfl)|rfl) ?_|refine st_seq_draw rfl (by first|(simp only[go_sem,length_map,T4_len];rfl)|rfl) (by first|(simp only[go_sem,length_map,T4_len];rfl)|rfl) ?_|refine st_op ?_|refine st_det rfl (by simp (disch:=omega) only[go_sem,wr_i64,if_yes,if_no,↓reduceIte,reduceAdd,reduceMul,reduceEqDiff,Nat.reduceBEq,reduceLeDiff,length_map,T4_len];rfl) ?_|refine st_dop rfl ?_|(refine st_pureE (by first|(simp (disch:=omega) only[go_sem,length_map,T4_len];rfl)|rfl) rfl (k15) (by first|(simp only[go_sem,length_map,T4_len];rfl)|rfl) (by intro n;first|(simp (disch:=omega) only[go_sem];rfl)|rfl) ?_;intro n hn)|(refine st_condS rfl ?_ ?_ <;> intro hg <;> (try simp only[decide_eq_true_eq,decide_eq_false_iff_not,Bool.not_eq_true',Bool.not_eq_false'] at hg))|refine st_nil ?_|refine st_tN ?_|refine st_seq ?_|refine st_block ?_|refine st_skip ?_|refine st_exit ?_|refine st_ret ?_|refine st_tE ?_|refine st_bH ?_)
      all_goals try (exfalso;omega)
      all_goals
        simp (disch:=omega) only[AEnd,Try.results3,aresK,fin,go_sem,↓reduceIte,reduceEqDiff,reduceAdd,reduceLeDiff,if_yes,if_no,implies_true,true_and,and_true,List.reverse_cons,List.reverse_nil]
    have hget:=T4_get (a:=x) (b:=t) hi
    have hm:((T4 x t).getD i noTw).lens:=by
      match i,hi with
      | 0,_=>exact hV.lens
      | 1,_=>exact hT.lens
      | 2,_=>exact hT.lens
      | 3,_=>exact hT.lens
    have hk:(pel (P4 p L S) i).length≤1000:=by
      match i,hi with
      | 0,_=>show p.length≤1000;omega
      | 1,_=>show L.length≤1000;omega
      | 2,_=>show S.length≤1000;omega
      | 3,_=>show L.length≤1000;omega
    have hcg:=rowP_getD (l:=P4 p L S) (i:=i) hi
    have hfg:=ivs_getD (l:=M4 most r1) (i:=i) hi
    generalize (T4 x t).getD i noTw=m at *
    generalize pel (P4 p L S) i=P at *
    generalize elt (M4 most r1) i=g at *
    have hkf:(M4 most r1).length=4:=rfl
    have hkt:(P4 p L S).length=4:=rfl
    have hget':((T4 x t).map Tw.cells).getD i []=[.lst 1 (m.rooms.map iv),.lst 2 (m.sts.map Sx.row),.lst 7 (m.gs.map Gp.row),.int .i64 m.steps]:=hget
    have k22:=c22 m hm
    have k20:=c20 P (by omega)
    have k23:=c23 m g P (by omega)
    have k24:=c24 m g P (by omega)
    obtain ⟨wb,e1,hW⟩:=provedV_two m g P
    rw [hW] at k23 k24
    have k25:=c25 m hm
    have k26:=c26s P (by omega)
    repeat' (first|refine st_seq_reg rfl (by first|(simp only[go_sem,length_map,T4_len,hkf,hkt,hget',hcg,hfg,not_true_eq_false,decide_false,Bool.false_eq_true,beq_self_eq_true,Bool.not_true];rfl)|rfl) (by first|(simp only[go_sem,length_map,T4_len,hkf,hkt,hget',hcg,hfg,not_true_eq_false,decide_false,Bool.false_eq_true,beq_self_eq_true,Bool.not_true];rfl)|rfl) ?_|refine st_reg rfl (by first|(simp only[go_sem,length_map,T4_len,hkf,hkt,hget',hcg,hfg,not_true_eq_false,decide_false,Bool.false_eq_true,beq_self_eq_true,Bool.not_true];rfl)|rfl) (by first|(simp only[go_sem,length_map,T4_len,hkf,hkt,hget',hcg,hfg,not_true_eq_false,decide_false,Bool.false_eq_true,beq_self_eq_true,Bool.not_true];rfl)|rfl) ?_|refine st_seq_draw rfl (by first|(simp only[go_sem,length_map,T4_len,hkf,hkt,hget',hcg,hfg,not_true_eq_false,decide_false,Bool.false_eq_true,beq_self_eq_true,Bool.not_true];rfl)|rfl) (by first|(simp only[go_sem,length_map,T4_len,hkf,hkt,hget',hcg,hfg,not_true_eq_false,decide_false,Bool.false_eq_true,beq_self_eq_true,Bool.not_true];rfl)|rfl) ?_|refine st_op ?_|refine st_det rfl (by simp (disch:=omega) only[go_sem,wr_i64,if_yes,if_no,↓reduceIte,reduceAdd,reduceMul,reduceEqDiff,Nat.reduceBEq,reduceLeDiff,length_map,T4_len,hkf,hkt,hget',hcg,hfg,not_true_eq_false,decide_false,Bool.false_eq_true,beq_self_eq_true,Bool.not_true];rfl) ?_|refine st_dop rfl ?_|refine st_loc rfl (by simp (disch:=omega) only[go_sem,wr_i64,if_yes,if_no,↓reduceIte,reduceAdd,reduceMul,reduceEqDiff,Nat.reduceBEq,reduceLeDiff,length_map,T4_len,hkf,hkt,hget',hcg,hfg,not_true_eq_false,decide_false,Bool.false_eq_true,beq_self_eq_true,Bool.not_true];rfl) ?_|refine st_store (by simp (disch:=omega) only[go_sem,wr_i64,if_yes,if_no,↓reduceIte,reduceAdd,reduceMul,reduceEqDiff,Nat.reduceBEq,reduceLeDiff,length_map,T4_len,hkf,hkt,hget',hcg,hfg,not_true_eq_false,decide_false,Bool.false_eq_true,beq_self_eq_true,Bool.not_true];rfl) ?_|(refine st_pureE (by first|(simp (disch:=omega) only[go_sem,length_map,T4_len,hkf,hkt,hget',hcg,hfg,not_true_eq_false,decide_false,Bool.false_eq_true,beq_self_eq_true,Bool.not_true];rfl)|rfl) rfl (k22) (by first|(simp only[go_sem,length_map,T4_len,hkf,hkt,hget',hcg,hfg,not_true_eq_false,decide_false,Bool.false_eq_true,beq_self_eq_true,Bool.not_true];rfl)|rfl) (by intro n;first|(simp (disch:=omega) only[go_sem];rfl)|rfl) ?_;intro n hn)|(refine st_pureE (by first|(simp (disch:=omega) only[go_sem,length_map,T4_len,hkf,hkt,hget',hcg,hfg,not_true_eq_false,decide_false,Bool.false_eq_true,beq_self_eq_true,Bool.not_true];rfl)|rfl) rfl (k20) (by first|(simp only[go_sem,length_map,T4_len,hkf,hkt,hget',hcg,hfg,not_true_eq_false,decide_false,Bool.false_eq_true,beq_self_eq_true,Bool.not_true];rfl)|rfl) (by intro n;first|(simp (disch:=omega) only[go_sem];rfl)|rfl) ?_;intro n hn)|(refine st_pureE (by first|(simp (disch:=omega) only[go_sem,length_map,T4_len,hkf,hkt,hget',hcg,hfg,not_true_eq_false,decide_false,Bool.false_eq_true,beq_self_eq_true,Bool.not_true];rfl)|rfl) rfl (k23) (by first|(simp only[go_sem,length_map,T4_len,hkf,hkt,hget',hcg,hfg,not_true_eq_false,decide_false,Bool.false_eq_true,beq_self_eq_true,Bool.not_true];rfl)|rfl) (by intro n;first|(simp (disch:=omega) only[go_sem];rfl)|rfl) ?_;intro n hn)|(refine st_pureE (by first|(simp (disch:=omega) only[go_sem,length_map,T4_len,hkf,hkt,hget',hcg,hfg,not_true_eq_false,decide_false,Bool.false_eq_true,beq_self_eq_true,Bool.not_true];rfl)|rfl) rfl (k24) (by first|(simp only[go_sem,length_map,T4_len,hkf,hkt,hget',hcg,hfg,not_true_eq_false,decide_false,Bool.false_eq_true,beq_self_eq_true,Bool.not_true];rfl)|rfl) (by intro n;first|(simp (disch:=omega) only[go_sem];rfl)|rfl) ?_;intro n hn)|(refine st_pureE (by first|(simp (disch:=omega) only[go_sem,length_map,T4_len,hkf,hkt,hget',hcg,hfg,not_true_eq_false,decide_false,Bool.false_eq_true,beq_self_eq_true,Bool.not_true];rfl)|rfl) rfl (k25) (by first|(simp only[go_sem,length_map,T4_len,hkf,hkt,hget',hcg,hfg,not_true_eq_false,decide_false,Bool.false_eq_true,beq_self_eq_true,Bool.not_true];rfl)|rfl) (by intro n;first|(simp (disch:=omega) only[go_sem];rfl)|rfl) ?_;intro n hn)|(refine st_pureE (by first|(simp (disch:=omega) only[go_sem,length_map,T4_len,hkf,hkt,hget',hcg,hfg,not_true_eq_false,decide_false,Bool.false_eq_true,beq_self_eq_true,Bool.not_true];rfl)|rfl) rfl (k26) (by first|(simp only[go_sem,length_map,T4_len,hkf,hkt,hget',hcg,hfg,not_true_eq_false,decide_false,Bool.false_eq_true,beq_self_eq_true,Bool.not_true];rfl)|rfl) (by intro n;first|(simp (disch:=omega) only[go_sem];rfl)|rfl) ?_;intro n hn)|refine st_dgT rfl rfl rfl rfl ?_|refine st_condF rfl ?_|(refine st_condS rfl ?_ ?_ <;> intro hg <;> (try simp only[decide_eq_true_eq,decide_eq_false_iff_not,Bool.not_eq_true',Bool.not_eq_false'] at hg))|refine st_nil ?_|refine st_dnil ?_|refine st_tN ?_|refine st_seq ?_|refine st_block ?_|refine st_skip ?_|refine st_exit ?_|refine st_tE ?_|refine st_bN ?_|refine st_bH ?_)
    all_goals try (exfalso;omega)
    all_goals
      refine ⟨i+1,(by show i+1≤4;omega),by show 4 - (i+1) < 4 - i;omega,(by repeat' (first|exact trivial|refine And.intro ?_ ?_|rfl|(simp (disch:=omega) only[go_sem,if_yes,if_no,↓reduceIte,reduceAdd,reduceMul,reduceEqDiff,Nat.reduceBEq,reduceLeDiff];rfl)|(simp (disch:=omega) only[go_sem,if_yes,if_no,↓reduceIte,reduceAdd,reduceMul,reduceEqDiff,Nat.reduceBEq,reduceLeDiff]))),(by repeat' (first|exact trivial|refine And.intro ?_ ?_|rfl|(simp (disch:=omega) only[go_sem,if_yes,if_no,↓reduceIte,reduceAdd,reduceMul,reduceEqDiff,Nat.reduceBEq,reduceLeDiff];rfl)|(simp (disch:=omega) only[go_sem,if_yes,if_no,↓reduceIte,reduceAdd,reduceMul,reduceEqDiff,Nat.reduceBEq,reduceLeDiff]))),rfl,hold2 _⟩
end Go.Proofs.Ythjbfdfhblloiaa
