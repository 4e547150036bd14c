/- Contracts of functions that the claim reaches: what each call gives, told in our own logic. Conditions: those of each theorem. -/
import Derived.Test.YtaijkalhkgjakaaDoorG50
open Nat (reduceAdd reduceMul reduceEqDiff reduceLeDiff)
open List (length_map)
set_option linter.all false
set_option linter.unusedSimpArgs false
set_option linter.unusedVariables false
namespace Go.Proofs.YtaijkalhkgjakaaDoor
open Go.Av
attribute [local irreducible] thenA blockA awp awpOps awpD awp1
set_option maxHeartbeats 8000000
set_option maxRecDepth 20000
theorem c23 (b:Nat × Nat):Drum Tryd.prog 23 [.ptr b 0 0] b (fun v=>∃ r:List Hu,v=.lst 3 (r.map Hu.row)∧(r.length:Int)≤2∧∀ x ∈ r,(x.kind=3∧(500≤x.a∧x.a≤6000)∧300≤x.b∧x.b≤6000) ∨ (x.kind=2∧(200≤x.a∧x.a≤800)∧x.b=0)):=by
  refine Drum.give Tryd.call23 fun h x hx hu hold=>?_
  refine ACalls.of tab mixed Tryd.call23 Tryd.func23 rfl (fi:=⟨23,[],[12,20],none,[]⟩) rfl rfl (Nat.le_of_ble_eq_true rfl) (by decide) ?_
  unfold startA
  try simp only[go_sem]
  repeat' (first|refine st_seq_reg rfl (by first|(simp only[go_sem,hx,length_map];rfl)|rfl) (by first|(simp only[go_sem,hx,length_map];rfl)|rfl) ?_|refine st_reg rfl (by first|(simp only[go_sem,hx,length_map];rfl)|rfl) (by first|(simp only[go_sem,hx,length_map];rfl)|rfl) ?_|refine st_op ?_|refine st_det rfl (by simp (disch:=omega) only[go_sem,wr_i64,if_yes,if_no,↓reduceIte,reduceAdd,reduceMul,reduceEqDiff,Nat.reduceBEq,reduceLeDiff,hx,length_map];rfl) ?_|refine st_append (by simp (disch:=omega) only[go_sem,wr_i64,if_yes,if_no,↓reduceIte,reduceAdd,reduceMul,reduceEqDiff,Nat.reduceBEq,reduceLeDiff,hx,length_map];rfl) ?_|(refine st_drum (by first|(simp (disch:=omega) only[go_sem,hx,length_map];rfl)|rfl) rfl (c38 b 2 (by decide)) (by first|(simp (disch:=omega) only[go_sem,hx,length_map];rfl)|rfl|exact put_same _ _ _) (by assumption) (by first|(simp only[go_sem,hx,length_map];rfl)|rfl) (by intro x' n;first|(simp (disch:=omega) only[go_sem];rfl)|rfl) ?_;rintro v x' n hu' ⟨r1,rfl⟩ hn)|(refine st_drum (by first|(simp (disch:=omega) only[go_sem,hx,length_map];rfl)|rfl) rfl (c38 b 3 (by decide)) (by first|(simp (disch:=omega) only[go_sem,hx,length_map];rfl)|rfl|exact put_same _ _ _) (by assumption) (by first|(simp only[go_sem,hx,length_map];rfl)|rfl) (by intro x' n;first|(simp (disch:=omega) only[go_sem];rfl)|rfl) ?_;rintro v x' n hu' ⟨r2,rfl⟩ hn)|(refine st_drum (by first|(simp (disch:=omega) only[go_sem,hx,length_map];rfl)|rfl) rfl (c40' b 500 6000 (by decide) (by decide)) (by first|(simp (disch:=omega) only[go_sem,hx,length_map];rfl)|rfl|exact put_same _ _ _) (by assumption) (by first|(simp only[go_sem,hx,length_map];rfl)|rfl) (by intro x' n;first|(simp (disch:=omega) only[go_sem];rfl)|rfl) ?_;rintro v x' n hu' ⟨a1,rfl,ha1⟩ hn)|(refine st_drum (by first|(simp (disch:=omega) only[go_sem,hx,length_map];rfl)|rfl) rfl (c40' b 300 6000 (by decide) (by decide)) (by first|(simp (disch:=omega) only[go_sem,hx,length_map];rfl)|rfl|exact put_same _ _ _) (by assumption) (by first|(simp only[go_sem,hx,length_map];rfl)|rfl) (by intro x' n;first|(simp (disch:=omega) only[go_sem];rfl)|rfl) ?_;rintro v x' n hu' ⟨a2,rfl,ha2⟩ hn)|(refine st_drum (by first|(simp (disch:=omega) only[go_sem,hx,length_map];rfl)|rfl) rfl (c40' b 200 800 (by decide) (by decide)) (by first|(simp (disch:=omega) only[go_sem,hx,length_map];rfl)|rfl|exact put_same _ _ _) (by assumption) (by first|(simp only[go_sem,hx,length_map];rfl)|rfl) (by intro x' n;first|(simp (disch:=omega) only[go_sem];rfl)|rfl) ?_;rintro v x' n hu' ⟨a3,rfl,ha3⟩ hn)|(refine st_condS rfl ?_ ?_ <;> intro hg <;> (try simp only[decide_eq_true_eq,decide_eq_false_iff_not,Bool.not_eq_true',Bool.not_eq_false'] at hg))|refine st_nil ?_|refine st_tN ?_|refine st_seq ?_|refine st_skip ?_|refine st_ret ?_)
  · simp (disch:=omega) only[AEnd,Tryd.results23,aresK,fin,go_sem,↓reduceIte,reduceEqDiff,reduceAdd,reduceLeDiff,if_yes,if_no,implies_true,true_and,and_true,List.reverse_cons,List.reverse_nil]
    refine ⟨fun b' q1 q2=>by
      repeat' split
      all_goals first|rfl|(rename_i e;exfalso;first|exact q2 e|(rw [e] at q1;dsimp only at q1;omega))|(rename_i e _;exfalso;first|exact q2 e|(rw [e] at q1;dsimp only at q1;omega)),⟨_,rfl,by assumption⟩,.inr ⟨(_,21),⟨3,([⟨3,a1,a2⟩,⟨2,a3,0⟩]:List Hu).map Hu.row⟩,?_,if_pos rfl,[⟨3,a1,a2⟩,⟨2,a3,0⟩],?_,by simp,by intro y hy;simp only[List.mem_cons,List.not_mem_nil,or_false] at hy;rcases hy with rfl|rfl <;> dsimp only <;> omega⟩⟩
    · dsimp only;omega
    · simp [frz]
  · simp (disch:=omega) only[AEnd,Tryd.results23,aresK,fin,go_sem,↓reduceIte,reduceEqDiff,reduceAdd,reduceLeDiff,if_yes,if_no,implies_true,true_and,and_true,List.reverse_cons,List.reverse_nil]
    refine ⟨fun b' q1 q2=>by
      repeat' split
      all_goals first|rfl|(rename_i e;exfalso;first|exact q2 e|(rw [e] at q1;dsimp only at q1;omega))|(rename_i e _;exfalso;first|exact q2 e|(rw [e] at q1;dsimp only at q1;omega)),⟨_,rfl,by assumption⟩,.inr ⟨(_,13),⟨3,([⟨3,a1,a2⟩]:List Hu).map Hu.row⟩,?_,(if_neg (fun e=>by rw [← e] at hold;dsimp only at hold;omega)).trans (if_pos rfl),[⟨3,a1,a2⟩],?_,by simp,by intro y hy;simp only[List.mem_cons,List.not_mem_nil,or_false] at hy;rcases hy with rfl <;> dsimp only <;> omega⟩⟩
    · dsimp only;omega
    · simp [frz]
  · simp (disch:=omega) only[AEnd,Tryd.results23,aresK,fin,go_sem,↓reduceIte,reduceEqDiff,reduceAdd,reduceLeDiff,if_yes,if_no,implies_true,true_and,and_true,List.reverse_cons,List.reverse_nil]
    refine ⟨fun b' q1 q2=>by
      repeat' split
      all_goals first|rfl|(rename_i e;exfalso;first|exact q2 e|(rw [e] at q1;dsimp only at q1;omega))|(rename_i e _;exfalso;first|exact q2 e|(rw [e] at q1;dsimp only at q1;omega)),⟨_,rfl,by assumption⟩,.inr ⟨(_,21),⟨3,([⟨2,a3,0⟩]:List Hu).map Hu.row⟩,?_,if_pos rfl,[⟨2,a3,0⟩],?_,by simp,by intro y hy;simp only[List.mem_cons,List.not_mem_nil,or_false] at hy;rcases hy with rfl <;> dsimp only <;> omega⟩⟩
    · dsimp only;omega
    · simp [frz]
  · simp (disch:=omega) only[AEnd,Tryd.results23,aresK,fin,go_sem,↓reduceIte,reduceEqDiff,reduceAdd,reduceLeDiff,if_yes,if_no,implies_true,true_and,and_true,List.reverse_cons,List.reverse_nil]
    exact ⟨fun b' q1 q2=>by
      repeat' split
      all_goals first|rfl|(rename_i e;exfalso;first|exact q2 e|(rw [e] at q1;dsimp only at q1;omega))|(rename_i e _;exfalso;first|exact q2 e|(rw [e] at q1;dsimp only at q1;omega)),⟨_,rfl,by assumption⟩,.inl ⟨_,VLe.nils 3,[],rfl,by decide,fun y hy=>by cases hy⟩⟩
theorem cont_snoc {l m:List Int} {n x:Int} (h:m=l ++ [x]) (h1:l.contains n=false) (h2:¬ x=n):m.contains n=false:=by
  subst h
  simp only[List.contains_eq_mem,List.mem_append,List.mem_singleton,decide_eq_false_iff_not] at h1 ⊢
  rintro (q|q)
  · exact h1 q
  · exact h2 q.symm
theorem c32 (l:List Int) (n:Int) (hl:(l.length:Int) < 1000000):Pure Tryd.prog 32 [.lst 1 (l.map iv),.int .i64 n] (fun v=>v=.bool (l.contains n)):=by
  intro h
  refine ACalls.forget (ACalls.of tab mixed Tryd.call32 Tryd.func32 rfl (fi:=⟨18,[],[],none,[]⟩) rfl rfl (Nat.le_of_ble_eq_true rfl) (by decide) ?_)
  unfold startA
  try simp only[go_sem]
  repeat' (first|refine st_seq_reg rfl (by first|(simp only[go_sem];rfl)|rfl) (by first|(simp only[go_sem];rfl)|rfl) ?_|refine st_op ?_|refine st_det rfl (by simp (disch:=omega) only[go_sem,wr_i64,if_yes,if_no,↓reduceIte,reduceAdd,reduceMul,reduceEqDiff,Nat.reduceBEq,reduceLeDiff];rfl) ?_|refine st_nil ?_|refine st_seq ?_|refine st_block ?_)
  refine st_loopC (α:=Nat) tab mixed [] [] (by repeat (first|exact trivial|refine ⟨rfl,?_⟩)) [] [] (by repeat (first|exact trivial|refine ⟨rfl,?_⟩)) (fun i=>[(5,.int .i64 (i:Nat))]) [(0,_),(1,_),(4,_)] (fun _=>[]) [] (fun i=>i≤l.length∧(l.take i).contains n=false) (fun i=>l.length - i) (by decide) 0 ⟨Nat.zero_le _,rfl⟩ (by (try simp only[go_sem]);repeat' (first|exact trivial|refine And.intro ?_ ?_|rfl|(simp (disch:=omega) only[go_sem,if_yes,if_no,↓reduceIte,reduceAdd,reduceMul,reduceEqDiff,Nat.reduceBEq,reduceLeDiff];rfl)|(simp (disch:=omega) only[go_sem,if_yes,if_no,↓reduceIte,reduceAdd,reduceMul,reduceEqDiff,Nat.reduceBEq,reduceLeDiff]))) (by (try simp only[go_sem]);repeat' (first|exact trivial|refine And.intro ?_ ?_|rfl|(simp (disch:=omega) only[go_sem,if_yes,if_no,↓reduceIte,reduceAdd,reduceMul,reduceEqDiff,Nat.reduceBEq,reduceLeDiff];rfl)|(simp (disch:=omega) only[go_sem,if_yes,if_no,↓reduceIte,reduceAdd,reduceMul,reduceEqDiff,Nat.reduceBEq,reduceLeDiff]))) (by first|(simp only[go_sem];rfl)|rfl) (by intro n;simp only[go_sem];rfl) ?_
  rintro i c ⟨hi,hno⟩ hc
  simp only[go_sem]
  by_cases hil:i < l.length
  · have hg0:=ivs_getD (l:=l) (i:=i) hil
    have htk:l.take (i+1)=l.take i ++ [l.getD i 0]:=take_snoc hil
    by_cases hq:l.getD i 0=n
    · repeat' (first|refine st_seq_reg rfl (by first|(simp only[go_sem,length_map,hg0];rfl)|rfl) (by first|(simp only[go_sem,length_map,hg0];rfl)|rfl) ?_|refine st_reg rfl (by first|(simp only[go_sem,length_map,hg0];rfl)|rfl) (by first|(simp only[go_sem,length_map,hg0];rfl)|rfl) ?_|refine st_op ?_|refine st_det rfl (by simp (disch:=omega) only[go_sem,wr_i64,if_yes,if_no,↓reduceIte,reduceAdd,reduceMul,reduceEqDiff,Nat.reduceBEq,reduceLeDiff,length_map,hg0];rfl) ?_|(refine st_condS rfl ?_ ?_ <;> intro hg <;> (try simp only[decide_eq_true_eq,decide_eq_false_iff_not,Bool.not_eq_true',Bool.not_eq_false'] at hg))|refine st_nil ?_|refine st_tN ?_|refine st_seq ?_|refine st_block ?_|refine st_skip ?_|refine st_exit ?_|refine st_ret ?_|refine st_tE ?_|refine st_tR ?_|refine st_bN ?_|refine st_bR ?_|refine st_bH ?_)
      all_goals try (exfalso;omega)
      simp (disch:=omega) only[AEnd,Tryd.results32,aresK,fin,go_sem,↓reduceIte,reduceEqDiff,reduceAdd,reduceLeDiff,if_yes,if_no,implies_true,true_and,and_true,List.reverse_cons,List.reverse_nil]
      have:l.contains n=true:=by
        rw [List.contains_iff_mem]
        have e:l.getD i 0=l[i]:=by simp [List.getD_eq_getElem?_getD,hil]
        rw [← hq,e];exact List.getElem_mem hil
      rw [this]
    · repeat' (first|refine st_seq_reg rfl (by first|(simp only[go_sem,length_map,hg0];rfl)|rfl) (by first|(simp only[go_sem,length_map,hg0];rfl)|rfl) ?_|refine st_reg rfl (by first|(simp only[go_sem,length_map,hg0];rfl)|rfl) (by first|(simp only[go_sem,length_map,hg0];rfl)|rfl) ?_|refine st_op ?_|refine st_det rfl (by simp (disch:=omega) only[go_sem,wr_i64,if_yes,if_no,↓reduceIte,reduceAdd,reduceMul,reduceEqDiff,Nat.reduceBEq,reduceLeDiff,length_map,hg0];rfl) ?_|(refine st_condS rfl ?_ ?_ <;> intro hg <;> (try simp only[decide_eq_true_eq,decide_eq_false_iff_not,Bool.not_eq_true',Bool.not_eq_false'] at hg))|refine st_nil ?_|refine st_tN ?_|refine st_seq ?_|refine st_block ?_|refine st_skip ?_|refine st_exit ?_|refine st_ret ?_|refine st_tE ?_|refine st_tR ?_|refine st_bN ?_|refine st_bR ?_|refine st_bH ?_)
      all_goals try (exfalso;omega)
      refine ⟨i+1,⟨by omega,cont_snoc htk hno hq⟩,by omega,(by repeat' (first|exact trivial|refine And.intro ?_ ?_|rfl|(simp (disch:=omega) only[go_sem,if_yes,if_no,↓reduceIte,reduceAdd,reduceMul,reduceEqDiff,Nat.reduceBEq,reduceLeDiff];rfl)|(simp (disch:=omega) only[go_sem,if_yes,if_no,↓reduceIte,reduceAdd,reduceMul,reduceEqDiff,Nat.reduceBEq,reduceLeDiff]))),(by repeat' (first|exact trivial|refine And.intro ?_ ?_|rfl|(simp (disch:=omega) only[go_sem,if_yes,if_no,↓reduceIte,reduceAdd,reduceMul,reduceEqDiff,Nat.reduceBEq,reduceLeDiff];rfl)|(simp (disch:=omega) only[go_sem,if_yes,if_no,↓reduceIte,reduceAdd,reduceMul,reduceEqDiff,Nat.reduceBEq,reduceLeDiff]))),rfl,(by first|exact HOld.of _ (by omega)|exact HOld.put _ _ _ (by omega))⟩
  · have ei:i=l.length:=by omega
    subst ei
    rw [List.take_length] at hno
    repeat' (first|refine st_seq_reg rfl (by first|(simp only[go_sem,length_map];rfl)|rfl) (by first|(simp only[go_sem,length_map];rfl)|rfl) ?_|refine st_reg rfl (by first|(simp only[go_sem,length_map];rfl)|rfl) (by first|(simp only[go_sem,length_map];rfl)|rfl) ?_|refine st_op ?_|refine st_det rfl (by simp (disch:=omega) only[go_sem,wr_i64,if_yes,if_no,↓reduceIte,reduceAdd,reduceMul,reduceEqDiff,Nat.reduceBEq,reduceLeDiff,length_map];rfl) ?_|(refine st_condS rfl ?_ ?_ <;> intro hg <;> (try simp only[decide_eq_true_eq,decide_eq_false_iff_not,Bool.not_eq_true',Bool.not_eq_false'] at hg))|refine st_nil ?_|refine st_tN ?_|refine st_seq ?_|refine st_block ?_|refine st_skip ?_|refine st_exit ?_|refine st_ret ?_|refine st_tE ?_|refine st_tR ?_|refine st_bN ?_|refine st_bR ?_|refine st_bH ?_)
    all_goals try (exfalso;omega)
    simp (disch:=omega) only[AEnd,Tryd.results32,aresK,fin,go_sem,↓reduceIte,reduceEqDiff,reduceAdd,reduceLeDiff,if_yes,if_no,implies_true,true_and,and_true,List.reverse_cons,List.reverse_nil]
    rw [hno]
theorem c82 (l:List Int) (n:Int) (hl:(l.length:Int) < 1000000):Pure Tryd.prog 82 [.lst 1 (l.map iv),.int .i64 n] (fun v=>v=.bool (l.contains n)):=by
  intro h
  refine ACalls.forget (ACalls.of tab mixed Tryd.call82 Tryd.func82 rfl (fi:=⟨18,[],[],none,[]⟩) rfl rfl (Nat.le_of_ble_eq_true rfl) (by decide) ?_)
  unfold startA
  try simp only[go_sem]
  repeat' (first|refine st_seq_reg rfl (by first|(simp only[go_sem];rfl)|rfl) (by first|(simp only[go_sem];rfl)|rfl) ?_|refine st_op ?_|refine st_det rfl (by simp (disch:=omega) only[go_sem,wr_i64,if_yes,if_no,↓reduceIte,reduceAdd,reduceMul,reduceEqDiff,Nat.reduceBEq,reduceLeDiff];rfl) ?_|refine st_nil ?_|refine st_seq ?_|refine st_block ?_)
  refine st_loopC (α:=Nat) tab mixed [] [] (by repeat (first|exact trivial|refine ⟨rfl,?_⟩)) [] [] (by repeat (first|exact trivial|refine ⟨rfl,?_⟩)) (fun i=>[(5,.int .i64 (i:Nat))]) [(0,_),(1,_),(4,_)] (fun _=>[]) [] (fun i=>i≤l.length∧(l.take i).contains n=false) (fun i=>l.length - i) (by decide) 0 ⟨Nat.zero_le _,rfl⟩ (by (try simp only[go_sem]);repeat' (first|exact trivial|refine And.intro ?_ ?_|rfl|(simp (disch:=omega) only[go_sem,if_yes,if_no,↓reduceIte,reduceAdd,reduceMul,reduceEqDiff,Nat.reduceBEq,reduceLeDiff];rfl)|(simp (disch:=omega) only[go_sem,if_yes,if_no,↓reduceIte,reduceAdd,reduceMul,reduceEqDiff,Nat.reduceBEq,reduceLeDiff]))) (by (try simp only[go_sem]);repeat' (first|exact trivial|refine And.intro ?_ ?_|rfl|(simp (disch:=omega) only[go_sem,if_yes,if_no,↓reduceIte,reduceAdd,reduceMul,reduceEqDiff,Nat.reduceBEq,reduceLeDiff];rfl)|(simp (disch:=omega) only[go_sem,if_yes,if_no,↓reduceIte,reduceAdd,reduceMul,reduceEqDiff,Nat.reduceBEq,reduceLeDiff]))) (by first|(simp only[go_sem];rfl)|rfl) (by intro n;simp only[go_sem];rfl) ?_
  rintro i c ⟨hi,hno⟩ hc
  simp only[go_sem]
  by_cases hil:i < l.length
  · have hg0:=ivs_getD (l:=l) (i:=i) hil
    have htk:l.take (i+1)=l.take i ++ [l.getD i 0]:=take_snoc hil
    by_cases hq:l.getD i 0=n
    · repeat' (first|refine st_seq_reg rfl (by first|(simp only[go_sem,length_map,hg0];rfl)|rfl) (by first|(simp only[go_sem,length_map,hg0];rfl)|rfl) ?_|refine st_reg rfl (by first|(simp only[go_sem,length_map,hg0];rfl)|rfl) (by first|(simp only[go_sem,length_map,hg0];rfl)|rfl) ?_|refine st_op ?_|refine st_det rfl (by simp (disch:=omega) only[go_sem,wr_i64,if_yes,if_no,↓reduceIte,reduceAdd,reduceMul,reduceEqDiff,Nat.reduceBEq,reduceLeDiff,length_map,hg0];rfl) ?_|(refine st_condS rfl ?_ ?_ <;> intro hg <;> (try simp only[decide_eq_true_eq,decide_eq_false_iff_not,Bool.not_eq_true',Bool.not_eq_false'] at hg))|refine st_nil ?_|refine st_tN ?_|refine st_seq ?_|refine st_block ?_|refine st_skip ?_|refine st_exit ?_|refine st_ret ?_|refine st_tE ?_|refine st_tR ?_|refine st_bN ?_|refine st_bR ?_|refine st_bH ?_)
      all_goals try (exfalso;omega)
      simp (disch:=omega) only[AEnd,Tryd.results82,aresK,fin,go_sem,↓reduceIte,reduceEqDiff,reduceAdd,reduceLeDiff,if_yes,if_no,implies_true,true_and,and_true,List.reverse_cons,List.reverse_nil]
      have:l.contains n=true:=by
        rw [List.contains_iff_mem]
        have e:l.getD i 0=l[i]:=by simp [List.getD_eq_getElem?_getD,hil]
        rw [← hq,e];exact List.getElem_mem hil
      rw [this]
    · repeat' (first|refine st_seq_reg rfl (by first|(simp only[go_sem,length_map,hg0];rfl)|rfl) (by first|(simp only[go_sem,length_map,hg0];rfl)|rfl) ?_|refine st_reg rfl (by first|(simp only[go_sem,length_map,hg0];rfl)|rfl) (by first|(simp only[go_sem,length_map,hg0];rfl)|rfl) ?_|refine st_op ?_|refine st_det rfl (by simp (disch:=omega) only[go_sem,wr_i64,if_yes,if_no,↓reduceIte,reduceAdd,reduceMul,reduceEqDiff,Nat.reduceBEq,reduceLeDiff,length_map,hg0];rfl) ?_|(refine st_condS rfl ?_ ?_ <;> intro hg <;> (try simp only[decide_eq_true_eq,decide_eq_false_iff_not,Bool.not_eq_true',Bool.not_eq_false'] at hg))|refine st_nil ?_|refine st_tN ?_|refine st_seq ?_|refine st_block ?_|refine st_skip ?_|refine st_exit ?_|refine st_ret ?_|refine st_tE ?_|refine st_tR ?_|refine st_bN ?_|refine st_bR ?_|refine st_bH ?_)
      all_goals try (exfalso;omega)
      refine ⟨i+1,⟨by omega,cont_snoc htk hno hq⟩,by omega,(by repeat' (first|exact trivial|refine And.intro ?_ ?_|rfl|(simp (disch:=omega) only[go_sem,if_yes,if_no,↓reduceIte,reduceAdd,reduceMul,reduceEqDiff,Nat.reduceBEq,reduceLeDiff];rfl)|(simp (disch:=omega) only[go_sem,if_yes,if_no,↓reduceIte,reduceAdd,reduceMul,reduceEqDiff,Nat.reduceBEq,reduceLeDiff]))),(by repeat' (first|exact trivial|refine And.intro ?_ ?_|rfl|(simp (disch:=omega) only[go_sem,if_yes,if_no,↓reduceIte,reduceAdd,reduceMul,reduceEqDiff,Nat.reduceBEq,reduceLeDiff];rfl)|(simp (disch:=omega) only[go_sem,if_yes,if_no,↓reduceIte,reduceAdd,reduceMul,reduceEqDiff,Nat.reduceBEq,reduceLeDiff]))),rfl,(by first|exact HOld.of _ (by omega)|exact HOld.put _ _ _ (by omega))⟩
  · have ei:i=l.length:=by omega
    subst ei
    rw [List.take_length] at hno
    repeat' (first|refine st_seq_reg rfl (by first|(simp only[go_sem,length_map];rfl)|rfl) (by first|(simp only[go_sem,length_map];rfl)|rfl) ?_|refine st_reg rfl (by first|(simp only[go_sem,length_map];rfl)|rfl) (by first|(simp only[go_sem,length_map];rfl)|rfl) ?_|refine st_op ?_|refine st_det rfl (by simp (disch:=omega) only[go_sem,wr_i64,if_yes,if_no,↓reduceIte,reduceAdd,reduceMul,reduceEqDiff,Nat.reduceBEq,reduceLeDiff,length_map];rfl) ?_|(refine st_condS rfl ?_ ?_ <;> intro hg <;> (try simp only[decide_eq_true_eq,decide_eq_false_iff_not,Bool.not_eq_true',Bool.not_eq_false'] at hg))|refine st_nil ?_|refine st_tN ?_|refine st_seq ?_|refine st_block ?_|refine st_skip ?_|refine st_exit ?_|refine st_ret ?_|refine st_tE ?_|refine st_tR ?_|refine st_bN ?_|refine st_bR ?_|refine st_bH ?_)
    all_goals try (exfalso;omega)
    simp (disch:=omega) only[AEnd,Tryd.results82,aresK,fin,go_sem,↓reduceIte,reduceEqDiff,reduceAdd,reduceLeDiff,if_yes,if_no,implies_true,true_and,and_true,List.reverse_cons,List.reverse_nil]
    rw [hno]
theorem spare_take {l:List Int} {i:Nat} (h:i < l.length):spare (l.take (i+1))=spare (l.take i)+if l.getD i 0 < 0 then 1 else 0:=by
  rw [take_snoc (d:=0) h,spare_app]
theorem c35 (l:List Int) (hl:(l.length:Int) < 1000000):Pure Tryd.prog 35 [.lst 1 (l.map iv)] (fun v=>v=.int .i64 (spare l:Nat)):=by
  intro h
  refine ACalls.forget (ACalls.of tab mixed Tryd.call35 Tryd.func35 rfl (fi:=⟨19,[],[],none,[]⟩) rfl rfl (Nat.le_of_ble_eq_true rfl) (by decide) ?_)
  unfold startA
  try simp only[go_sem]
  repeat' (first|refine st_seq_reg rfl (by first|(simp only[go_sem];rfl)|rfl) (by first|(simp only[go_sem];rfl)|rfl) ?_|refine st_op ?_|refine st_det rfl (by simp (disch:=omega) only[go_sem,wr_i64,if_yes,if_no,↓reduceIte,reduceAdd,reduceMul,reduceEqDiff,Nat.reduceBEq,reduceLeDiff];rfl) ?_|refine st_nil ?_|refine st_seq ?_|refine st_block ?_)
  refine st_loopC (α:=Nat) tab mixed [] [] (by repeat (first|exact trivial|refine ⟨rfl,?_⟩)) [] [] (by repeat (first|exact trivial|refine ⟨rfl,?_⟩)) (fun i=>[(4,.int .i64 (i:Nat)),(3,.int .i64 (spare (l.take i):Nat))]) [(0,_),(2,_)] (fun _=>[]) [] (fun i=>i≤l.length) (fun i=>l.length - i) (by decide) 0 (Nat.zero_le _) (by (try simp only[go_sem]);repeat' (first|exact trivial|refine And.intro ?_ ?_|rfl|(simp (disch:=omega) only[go_sem,if_yes,if_no,↓reduceIte,reduceAdd,reduceMul,reduceEqDiff,Nat.reduceBEq,reduceLeDiff];rfl)|(simp (disch:=omega) only[go_sem,if_yes,if_no,↓reduceIte,reduceAdd,reduceMul,reduceEqDiff,Nat.reduceBEq,reduceLeDiff]))) (by (try simp only[go_sem]);repeat' (first|exact trivial|refine And.intro ?_ ?_|rfl|(simp (disch:=omega) only[go_sem,if_yes,if_no,↓reduceIte,reduceAdd,reduceMul,reduceEqDiff,Nat.reduceBEq,reduceLeDiff];rfl)|(simp (disch:=omega) only[go_sem,if_yes,if_no,↓reduceIte,reduceAdd,reduceMul,reduceEqDiff,Nat.reduceBEq,reduceLeDiff]))) (by first|(simp only[go_sem];rfl)|rfl) (by intro n;simp only[go_sem];rfl) ?_
  rintro i c hi hc
  simp only[go_sem]
  have hsp:=spare_le (l.take i)
  have htl:=List.length_take_le i l
  by_cases hil:i < l.length
  · have hg0:=ivs_getD (l:=l) (i:=i) hil
    have hst:=spare_take hil
    by_cases hq:l.getD i 0 < 0
    · rw [if_pos hq] at hst
      have s1:((spare (l.take i):Nat):Int)+1=((spare (l.take (i+1)):Nat):Int):=by omega
      repeat' (first|refine st_seq_reg rfl (by first|(simp only[go_sem,length_map,hg0,s1];rfl)|rfl) (by first|(simp only[go_sem,length_map,hg0,s1];rfl)|rfl) ?_|refine st_reg rfl (by first|(simp only[go_sem,length_map,hg0,s1];rfl)|rfl) (by first|(simp only[go_sem,length_map,hg0,s1];rfl)|rfl) ?_|refine st_op ?_|refine st_det rfl (by simp (disch:=omega) only[go_sem,wr_i64,if_yes,if_no,↓reduceIte,reduceAdd,reduceMul,reduceEqDiff,Nat.reduceBEq,reduceLeDiff,length_map,hg0,s1];rfl) ?_|(refine st_condS rfl ?_ ?_ <;> intro hg <;> (try simp only[decide_eq_true_eq,decide_eq_false_iff_not,Bool.not_eq_true',Bool.not_eq_false'] at hg))|refine st_nil ?_|refine st_tN ?_|refine st_seq ?_|refine st_block ?_|refine st_skip ?_|refine st_exit ?_|refine st_ret ?_|refine st_tE ?_|refine st_bN ?_|refine st_bH ?_)
      all_goals try (exfalso;omega)
      refine ⟨i+1,(by omega),by omega,(by repeat' (first|exact trivial|refine And.intro ?_ ?_|rfl|(simp (disch:=omega) only[go_sem,if_yes,if_no,↓reduceIte,reduceAdd,reduceMul,reduceEqDiff,Nat.reduceBEq,reduceLeDiff];rfl)|(simp (disch:=omega) only[go_sem,if_yes,if_no,↓reduceIte,reduceAdd,reduceMul,reduceEqDiff,Nat.reduceBEq,reduceLeDiff]))),(by repeat' (first|exact trivial|refine And.intro ?_ ?_|rfl|(simp (disch:=omega) only[go_sem,if_yes,if_no,↓reduceIte,reduceAdd,reduceMul,reduceEqDiff,Nat.reduceBEq,reduceLeDiff];rfl)|(simp (disch:=omega) only[go_sem,if_yes,if_no,↓reduceIte,reduceAdd,reduceMul,reduceEqDiff,Nat.reduceBEq,reduceLeDiff]))),rfl,(by first|exact HOld.of _ (by omega)|exact HOld.put _ _ _ (by omega))⟩
    · rw [if_neg hq,Nat.add_zero] at hst
      repeat' (first|refine st_seq_reg rfl (by first|(simp only[go_sem,length_map,hg0];rfl)|rfl) (by first|(simp only[go_sem,length_map,hg0];rfl)|rfl) ?_|refine st_reg rfl (by first|(simp only[go_sem,length_map,hg0];rfl)|rfl) (by first|(simp only[go_sem,length_map,hg0];rfl)|rfl) ?_|refine st_op ?_|refine st_det rfl (by simp (disch:=omega) only[go_sem,wr_i64,if_yes,if_no,↓reduceIte,reduceAdd,reduceMul,reduceEqDiff,Nat.reduceBEq,reduceLeDiff,length_map,hg0];rfl) ?_|(refine st_condS rfl ?_ ?_ <;> intro hg <;> (try simp only[decide_eq_true_eq,decide_eq_false_iff_not,Bool.not_eq_true',Bool.not_eq_false'] at hg))|refine st_nil ?_|refine st_tN ?_|refine st_seq ?_|refine st_block ?_|refine st_skip ?_|refine st_exit ?_|refine st_ret ?_|refine st_tE ?_|refine st_bN ?_|refine st_bH ?_)
      all_goals try (exfalso;omega)
      refine ⟨i+1,(by omega),by omega,(by (try (simp only[hst]));repeat' (first|exact trivial|refine And.intro ?_ ?_|rfl|(simp (disch:=omega) only[go_sem,if_yes,if_no,↓reduceIte,reduceAdd,reduceMul,reduceEqDiff,Nat.reduceBEq,reduceLeDiff];rfl)|(simp (disch:=omega) only[go_sem,if_yes,if_no,↓reduceIte,reduceAdd,reduceMul,reduceEqDiff,Nat.reduceBEq,reduceLeDiff]))),(by (try (simp only[hst]));repeat' (first|exact trivial|refine And.intro ?_ ?_|rfl|(simp (disch:=omega) only[go_sem,if_yes,if_no,↓reduceIte,reduceAdd,reduceMul,reduceEqDiff,Nat.reduceBEq,reduceLeDiff];rfl)|(simp (disch:=omega) only[go_sem,if_yes,if_no,↓reduceIte,reduceAdd,reduceMul,reduceEqDiff,Nat.reduceBEq,reduceLeDiff]))),rfl,(by first|exact HOld.of _ (by omega)|exact HOld.put _ _ _ (by omega))⟩
  · have ei:i=l.length:=by omega
    subst ei
    repeat' (first|refine st_seq_reg rfl (by first|(simp only[go_sem,length_map];rfl)|rfl) (by first|(simp only[go_sem,length_map];rfl)|rfl) ?_|refine st_reg rfl (by first|(simp only[go_sem,length_map];rfl)|rfl) (by first|(simp only[go_sem,length_map];rfl)|rfl) ?_|refine st_op ?_|refine st_det rfl (by simp (disch:=omega) only[go_sem,wr_i64,if_yes,if_no,↓reduceIte,reduceAdd,reduceMul,reduceEqDiff,Nat.reduceBEq,reduceLeDiff,length_map];rfl) ?_|(refine st_condS rfl ?_ ?_ <;> intro hg <;> (try simp only[decide_eq_true_eq,decide_eq_false_iff_not,Bool.not_eq_true',Bool.not_eq_false'] at hg))|refine st_nil ?_|refine st_tN ?_|refine st_seq ?_|refine st_block ?_|refine st_skip ?_|refine st_exit ?_|refine st_ret ?_|refine st_tE ?_|refine st_bN ?_|refine st_bH ?_)
    all_goals try (exfalso;omega)
    simp (disch:=omega) only[AEnd,Tryd.results35,aresK,fin,go_sem,↓reduceIte,reduceEqDiff,reduceAdd,reduceLeDiff,if_yes,if_no,implies_true,true_and,and_true,List.reverse_cons,List.reverse_nil]
    rw [List.take_length]
end Go.Proofs.YtaijkalhkgjakaaDoor
