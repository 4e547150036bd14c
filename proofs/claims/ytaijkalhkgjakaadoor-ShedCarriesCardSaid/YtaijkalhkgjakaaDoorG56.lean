/- Contracts of functions that the claim reaches: what each call gives, told in our own logic. Conditions: those of each theorem. -/
import Derived.Test.YtaijkalhkgjakaaDoorG55
import Derived.Test.YtaijkalhkgjakaaDoorBaseC
open Nat (reduceAdd reduceMul reduceEqDiff reduceLeDiff)
open List (length_map)
set_option linter.all false
set_option linter.unusedSimpArgs false
set_option linter.unusedVariables false
namespace Go.Proofs.YtaijkalhkgjakaaDoor
open Go.Av
attribute [local irreducible] thenA blockA awp awpOps awpD awp1
set_option maxHeartbeats 8000000
set_option maxRecDepth 20000
theorem Pure.give2 {P:Program} {f:FuncId} {args:List AV} {R:AV→Prop} (he:Enters P f)
    (H:∀ h,(∀ b k,h.at_ b=some k→b.1 < h.clk)→ACalls P f args h (fun v h'=>(∀ b',b'.1 < h.clk→h'.at_ b'=h.at_ b')∧h'.lp=h.lp ∧
      ((∃ v',VLe v v'∧R v') ∨ ∃ b1 k1 b2 k2,h.clk≤b1.1∧h.clk≤b2.1∧b2 ≠ b1∧h'.at_ b1=some k1∧h'.at_ b2=some k2∧R (frz b2 k2 (frz b1 k1 v))))):Pure P f args R:=by
  refine Pure.give he fun h hold=>?_
  refine ((H h hold).mono (Q':=fun v h'=>(∃ v',VLe v v'∧((∀ b',b'.1 < h.clk→h'.at_ b'=h.at_ b')∧h'.lp=h.lp∧((∃ v'',VLe v' v''∧R v'') ∨ ∃ b2 k,h.clk≤b2.1∧h'.at_ b2=some k∧R (frz b2 k v')))) ∨ ∃ b1 k1,h'.at_ b1=some k1∧h.at_ b1=none ∧
    ((∀ b',b'.1 < h.clk→(h'.put b1 none).at_ b'=h.at_ b')∧(h'.put b1 none).lp=h.lp∧((∃ v'',VLe (frz b1 k1 v) v''∧R v'') ∨ ∃ b2 k,h.clk≤b2.1∧(h'.put b1 none).at_ b2=some k∧R (frz b2 k (frz b1 k1 v))))) ?_).give
  rintro v h' ⟨h1,h2,h3|⟨b1,k1,b2,k2,g1,g2,g3,g4,g5,g6⟩⟩
  · obtain ⟨v',hv,hr⟩:=h3
    exact .inl ⟨v,VLe.refl v,h1,h2,.inl ⟨v',hv,hr⟩⟩
  · refine .inr ⟨b1,k1,g4,?_,fun b' hb'=>?_,h2,.inr ⟨b2,k2,g2,?_,g6⟩⟩
    · cases e:h.at_ b1 with
      | none=>rfl
      | some k'=>exact absurd (hold b1 k' e) (by omega)
    · rw [put_ne _ _ (fun e=>by rw [e] at hb';omega)];exact h1 b' hb'
    · rw [put_ne _ _ g3];exact g5
structure GS where
  i:Nat
  t:Nat
  b1:Nat × Nat
  b2:Nat × Nat
def GS.s1 (a:GS):AV:=if a.i=0 then .nils else .slc a.b1 1 0 a.i
def GS.s2 (a:GS):AV:=if a.i=0 then .nils else .slc a.b2 1 0 a.i
def GS.hp (h:AH) (g1 g2:Ld→Int) (l:List Ld) (a:GS):AH:=if a.i=0 then h.tick a.t else ((h.tick a.t).put a.b1 (some ⟨1,((l.take a.i).map g1).map iv⟩)).put a.b2 (some ⟨1,((l.take a.i).map g2).map iv⟩)
@[go_sem] theorem GS.s1_z (t:Nat) (b1 b2:Nat × Nat):GS.s1 ⟨0,t,b1,b2⟩=.nils:=rfl
@[go_sem] theorem GS.s2_z (t:Nat) (b1 b2:Nat × Nat):GS.s2 ⟨0,t,b1,b2⟩=.nils:=rfl
@[go_sem] theorem GS.s1_s (i t:Nat) (b1 b2:Nat × Nat):GS.s1 ⟨i+1,t,b1,b2⟩=.slc b1 1 0 (i+1):=by simp [GS.s1]
@[go_sem] theorem GS.s2_s (i t:Nat) (b1 b2:Nat × Nat):GS.s2 ⟨i+1,t,b1,b2⟩=.slc b2 1 0 (i+1):=by simp [GS.s2]
theorem take_iv {l:List Ld} {i:Nat} (g:Ld→Int) (h:i < l.length):((l.take (i+1)).map g).map iv=((l.take i).map g).map iv ++ [[.int .i64 (g (ld l i))]]:=by
  rw [List.take_succ_eq_append_getElem h]
  rw [List.map_append,List.map_append]
  simp [iv,ld,List.getD_eq_getElem?_getD,h,-List.map_take,-List.map_map]
theorem hold4 {h:AH} {m m':Nat} {b1 b2 j1 j2:Nat × Nat} {x1 x2:Option Blk} {y1 y2 z1 z2:List (List AV)} (hn:m≤m') (hy:y1=z1) (hy2:y2=z2) (hb1:h.at_ b1=none) (hb2:h.at_ b2=none) (n3:¬ j1=b2) (n4:¬ j1=j2) :
    HOld (((h.tick m).put j1 (some ⟨1,y1⟩)).put j2 (some ⟨1,y2⟩)) ((((((((h.tick m').put b1 x1).put b2 x2).put b1 none).put j1 (some ⟨1,z1⟩)).put b2 none).put j2 (some ⟨1,z2⟩))):=by
  subst hy hy2
  refine ⟨fun z k' hz=>?_,fun _ _ e=>e,hn,rfl⟩
  simp only[AH.put,upd_apply,AH.tick] at hz ⊢
  by_cases e:z=j2
  · simpa [e] using hz
  · by_cases e2:z=j1
    · subst e2;simpa [n3,e] using hz
    · by_cases e3:z=b1
      · subst e3;simp [e,e2,hb1] at hz
      · by_cases e4:z=b2
        · subst e4;simp [e,e2,hb2] at hz
        · simpa [e,e2,e3,e4] using hz
theorem c26 (f:Fl) (hl:f.loads.length≤1000):Pure Tryd.prog 26 [f.av] (fun v=>v=tr (f.loads.map (·.lo)) (f.loads.map (·.tlo))):=by
  refine Pure.give2 Tryd.call26 fun h hold=>?_
  refine ACalls.of tab mixed Tryd.call26 Tryd.func26 rfl (fi:=⟨37,[2,3],[1,21,32],none,[(5,[0,1,0,4,0,28,60,124,252,508,1023,0,2048,0,8192,0,57344,122880,253952,516096,1040384,2097151,8191,8388607,16777215,33554431],[(0,false),(1,true),(2,false),(3,true),(4,false),(5,false),(6,false),(7,false),(8,true),(9,false),(11,false),(12,true),(13,false),(14,true),(15,false),(16,false),(17,false),(18,false),(19,true),(20,false),(10,false),(22,false),(21,false),(23,false),(24,false),(25,false)])]⟩) rfl rfl (Nat.le_of_ble_eq_true rfl) (by decide) ?_
  unfold startA
  simp only[go_sem]
  repeat' (first|refine st_seq_reg rfl (by first|(simp only[go_sem];rfl)|rfl) (by first|(simp only[go_sem];rfl)|rfl) ?_|refine st_op ?_|refine st_det rfl (by simp (disch:=omega) only[go_sem,wr_i64,if_yes,if_no,↓reduceIte,reduceAdd,reduceMul,reduceEqDiff,Nat.reduceBEq,reduceLeDiff];rfl) ?_|refine st_loc rfl (by simp (disch:=omega) only[go_sem,wr_i64,if_yes,if_no,↓reduceIte,reduceAdd,reduceMul,reduceEqDiff,Nat.reduceBEq,reduceLeDiff];rfl) ?_|refine st_nil ?_|refine st_seq ?_|refine st_block ?_)
  refine st_loopH (α:=GS) tab mixed [3] [_] (by repeat (first|exact trivial|refine ⟨rfl,?_⟩)) [2] [_] (by repeat (first|exact trivial|refine ⟨rfl,?_⟩)) (fun a=>[(4,.int .i64 a.i)]) [(1,_),(2,_),(3,_)] (fun a=>[[a.s1,a.s2]]) [_] (GS.hp h (·.lo) (·.tlo) f.loads) (fun a=>a.i≤f.loads.length∧h.clk+1+1+1≤a.t∧(0 < a.i→h.clk≤a.b1.1∧a.b1.1 < a.t∧h.clk≤a.b2.1∧a.b2.1 < a.t∧¬ a.b1=a.b2)) (fun a=>f.loads.length - a.i) (by decide) ⟨0,h.clk+1+1+1,(0,0),(0,0)⟩ ⟨Nat.zero_le _,Nat.le_refl _,fun h=>absurd h (Nat.lt_irrefl _)⟩ (by (try simp only[go_sem]);repeat' (first|exact trivial|refine And.intro ?_ ?_|rfl|(simp (disch:=omega) only[go_sem,if_yes,if_no,↓reduceIte,reduceAdd,reduceMul,reduceEqDiff,Nat.reduceBEq,reduceLeDiff];rfl)|(simp (disch:=omega) only[go_sem,if_yes,if_no,↓reduceIte,reduceAdd,reduceMul,reduceEqDiff,Nat.reduceBEq,reduceLeDiff]))) (by (try simp only[go_sem]);repeat' (first|exact trivial|refine And.intro ?_ ?_|rfl|(simp (disch:=omega) only[go_sem,if_yes,if_no,↓reduceIte,reduceAdd,reduceMul,reduceEqDiff,Nat.reduceBEq,reduceLeDiff];rfl)|(simp (disch:=omega) only[go_sem,if_yes,if_no,↓reduceIte,reduceAdd,reduceMul,reduceEqDiff,Nat.reduceBEq,reduceLeDiff]))) (HOld.refl _) ?_
  rintro ⟨i,t,b1,b2⟩ c ⟨i1,i2,i3⟩ hc
  dsimp only at i1 i2 i3
  have hno:∀ b:Nat × Nat,h.clk≤b.1→h.at_ b=none:=by
    intro b hb
    cases e':h.at_ b with
    | none=>rfl
    | some k=>exact absurd (hold b k e') (by omega)
  by_cases e:i=0
  · subst e
    have e2:GS.hp h (·.lo) (·.tlo) f.loads ⟨0,t,b1,b2⟩=h.tick t:=rfl
    rw [e2] at hc
    simp only[go_sem] at hc
    simp only[e2,go_sem]
    repeat' (first|refine st_seq_reg rfl (by first|(simp only[go_sem,big];rfl)|rfl) (by first|(simp only[go_sem,big];rfl)|rfl) ?_|refine st_reg rfl (by first|(simp only[go_sem,big];rfl)|rfl) (by first|(simp only[go_sem,big];rfl)|rfl) ?_|refine st_draw rfl (by first|(simp only[go_sem,big];rfl)|rfl) (by first|(simp only[go_sem,big];rfl)|rfl) ?_|refine st_op ?_|refine st_det rfl (by simp (disch:=omega) only[go_sem,wr_i64,if_yes,if_no,↓reduceIte,reduceAdd,reduceMul,reduceEqDiff,Nat.reduceBEq,reduceLeDiff,big];rfl) ?_|refine st_dop rfl ?_|refine st_store (by simp (disch:=omega) only[go_sem,wr_i64,if_yes,if_no,↓reduceIte,reduceAdd,reduceMul,reduceEqDiff,Nat.reduceBEq,reduceLeDiff,big];rfl) ?_|refine st_append (by simp (disch:=omega) only[go_sem,wr_i64,if_yes,if_no,↓reduceIte,reduceAdd,reduceMul,reduceEqDiff,Nat.reduceBEq,reduceLeDiff,big];rfl) ?_|(refine st_condS rfl ?_ ?_ <;> intro hg <;> (try simp only[decide_eq_true_eq,decide_eq_false_iff_not,Bool.not_eq_true',Bool.not_eq_false'] at hg))|refine st_nil ?_|refine st_dnil ?_|refine st_tN ?_|refine st_seq ?_|refine st_block ?_|refine st_skip ?_|refine st_exit ?_|refine st_ret ?_|refine st_tE ?_|refine st_bN ?_|refine st_bH ?_)
    · refine ⟨⟨0+1,c+1+1+1,(c+1,22),(c+1,33)⟩,⟨by show 0+1≤_;omega,by show _≤c+1+1+1;omega,fun _=>⟨by show h.clk≤c+1;omega,by show c+1 < c+1+1+1;omega,by show h.clk≤c+1;omega,by show c+1 < c+1+1+1;omega,fun e=>by cases e⟩⟩,by show f.loads.length - (0+1) < f.loads.length - 0;omega,(by repeat' (first|exact trivial|refine And.intro ?_ ?_|rfl|(simp (disch:=omega) only[go_sem,if_yes,if_no,↓reduceIte,reduceAdd,reduceMul,reduceEqDiff,Nat.reduceBEq,reduceLeDiff];rfl)|(simp (disch:=omega) only[go_sem,if_yes,if_no,↓reduceIte,reduceAdd,reduceMul,reduceEqDiff,Nat.reduceBEq,reduceLeDiff]))),(by repeat' (first|exact trivial|refine And.intro ?_ ?_|rfl|(simp (disch:=omega) only[go_sem,if_yes,if_no,↓reduceIte,reduceAdd,reduceMul,reduceEqDiff,Nat.reduceBEq,reduceLeDiff];rfl)|(simp (disch:=omega) only[go_sem,if_yes,if_no,↓reduceIte,reduceAdd,reduceMul,reduceEqDiff,Nat.reduceBEq,reduceLeDiff]))),rfl,by rw [GS.hp,if_neg (Nat.succ_ne_zero _)];dsimp only;rw [take_iv _ (by omega),take_iv _ (by omega)];exact ⟨fun _ _ h=>h,fun _ _ h=>h,Nat.le_refl _,rfl⟩⟩
    · simp (disch:=omega) only[AEnd,Tryd.results26,aresK,fin,go_sem,↓reduceIte,reduceEqDiff,reduceAdd,reduceLeDiff,if_yes,if_no,implies_true,true_and,and_true,List.reverse_cons,List.reverse_nil]
      have e0:f.loads=[]:=List.length_eq_zero_iff.1 (by omega)
      refine .inl ⟨tr [] [],VLe.agg (by simp only[VLes];exact ⟨_,_,rfl,VLe.nils 1,_,_,rfl,VLe.nils 1,rfl⟩) rfl,by rw [e0];rfl⟩
  · obtain ⟨g1,g2,g3,g4,g5⟩:=i3 (by omega)
    have e1:GS.s1 ⟨i,t,b1,b2⟩=.slc b1 1 0 i:=if_neg e
    have e1':GS.s2 ⟨i,t,b1,b2⟩=.slc b2 1 0 i:=if_neg e
    have e2:GS.hp h (·.lo) (·.tlo) f.loads ⟨i,t,b1,b2⟩=((h.tick t).put b1 (some ⟨1,((f.loads.take i).map (·.lo)).map iv⟩)).put b2 (some ⟨1,((f.loads.take i).map (·.tlo)).map iv⟩):=if_neg e
    rw [e2] at hc
    simp only[go_sem] at hc
    have n2:¬ b2=b1:=fun e=>g5 e.symm
    have n3:¬ b2=(c+1,22):=fun e=>by rw [e] at g4;exact absurd g4 (by show ¬ c+1 < t;omega)
    have n5:¬ b1=(c+1,22):=fun e=>by rw [e] at g2;exact absurd g2 (by show ¬ c+1 < t;omega)
    simp only[e1,e1',e2,go_sem]
    repeat' (first|refine st_seq_reg rfl (by first|(simp only[go_sem,big,g5,n2,n3,n5,length_map,List.length_take];rfl)|rfl) (by first|(simp only[go_sem,big,g5,n2,n3,n5,length_map,List.length_take];rfl)|rfl) ?_|refine st_reg rfl (by first|(simp only[go_sem,big,g5,n2,n3,n5,length_map,List.length_take];rfl)|rfl) (by first|(simp only[go_sem,big,g5,n2,n3,n5,length_map,List.length_take];rfl)|rfl) ?_|refine st_draw rfl (by first|(simp only[go_sem,big,g5,n2,n3,n5,length_map,List.length_take];rfl)|rfl) (by first|(simp only[go_sem,big,g5,n2,n3,n5,length_map,List.length_take];rfl)|rfl) ?_|refine st_op ?_|refine st_det rfl (by simp (disch:=omega) only[go_sem,wr_i64,if_yes,if_no,↓reduceIte,reduceAdd,reduceMul,reduceEqDiff,Nat.reduceBEq,reduceLeDiff,big,g5,n2,n3,n5,length_map,List.length_take];rfl) ?_|refine st_dop rfl ?_|refine st_store (by simp (disch:=omega) only[go_sem,wr_i64,if_yes,if_no,↓reduceIte,reduceAdd,reduceMul,reduceEqDiff,Nat.reduceBEq,reduceLeDiff,big,g5,n2,n3,n5,length_map,List.length_take];rfl) ?_|refine st_append (by simp (disch:=omega) only[go_sem,wr_i64,if_yes,if_no,↓reduceIte,reduceAdd,reduceMul,reduceEqDiff,Nat.reduceBEq,reduceLeDiff,big,g5,n2,n3,n5,length_map,List.length_take];rfl) ?_|(refine st_condS rfl ?_ ?_ <;> intro hg <;> (try simp only[decide_eq_true_eq,decide_eq_false_iff_not,Bool.not_eq_true',Bool.not_eq_false'] at hg))|refine st_nil ?_|refine st_dnil ?_|refine st_tN ?_|refine st_seq ?_|refine st_block ?_|refine st_skip ?_|refine st_exit ?_|refine st_ret ?_|refine st_tE ?_|refine st_bN ?_|refine st_bH ?_)
    · refine ⟨⟨i+1,c+1+1+1,(c+1,22),(c+1,33)⟩,⟨by show i+1≤_;omega,by show _≤c+1+1+1;omega,fun _=>⟨by show h.clk≤c+1;omega,by show c+1 < c+1+1+1;omega,by show h.clk≤c+1;omega,by show c+1 < c+1+1+1;omega,fun e=>by cases e⟩⟩,by show f.loads.length - (i+1) < f.loads.length - i;omega,(by repeat' (first|exact trivial|refine And.intro ?_ ?_|rfl|(simp (disch:=omega) only[go_sem,if_yes,if_no,↓reduceIte,reduceAdd,reduceMul,reduceEqDiff,Nat.reduceBEq,reduceLeDiff];rfl)|(simp (disch:=omega) only[go_sem,if_yes,if_no,↓reduceIte,reduceAdd,reduceMul,reduceEqDiff,Nat.reduceBEq,reduceLeDiff]))),(by repeat' (first|exact trivial|refine And.intro ?_ ?_|rfl|(simp (disch:=omega) only[go_sem,if_yes,if_no,↓reduceIte,reduceAdd,reduceMul,reduceEqDiff,Nat.reduceBEq,reduceLeDiff];rfl)|(simp (disch:=omega) only[go_sem,if_yes,if_no,↓reduceIte,reduceAdd,reduceMul,reduceEqDiff,Nat.reduceBEq,reduceLeDiff]))),rfl,by rw [GS.hp,if_neg (Nat.succ_ne_zero _)];dsimp only;rw [take_iv _ (by omega),take_iv _ (by omega)];exact hold4 (Nat.le_refl _) (congrArg (· ++ [_]) (List.take_of_length_le (by rw [length_map,length_map,List.length_take];omega)).symm) (congrArg (· ++ [_]) (List.take_of_length_le (by rw [length_map,length_map,List.length_take];omega)).symm) (hno _ g1) (hno _ g3) (fun e=>n3 e.symm) (fun e=>by cases e)⟩
    · simp (disch:=omega) only[AEnd,Tryd.results26,aresK,fin,go_sem,↓reduceIte,reduceEqDiff,reduceAdd,reduceLeDiff,if_yes,if_no,implies_true,true_and,and_true,List.reverse_cons,List.reverse_nil]
      have e0:i=f.loads.length:=by omega
      subst e0
      refine ⟨fun b' hb'=>?_,.inr ⟨b1,⟨1,((f.loads.take f.loads.length).map (·.lo)).map iv⟩,b2,⟨1,((f.loads.take f.loads.length).map (·.tlo)).map iv⟩,g1,g3,n2,?_,?_,?_⟩⟩
      · rw [if_neg (fun e=>by rw [e] at hb';omega),if_neg (fun e=>by rw [e] at hb';omega)]
      · exact (if_neg g5).trans (if_pos rfl)
      · exact if_pos rfl
      · simp only[List.take_length]
        simp [frz,frzs,n2,frz_iv,tr,List.take_of_length_le,-List.map_map]
theorem c27 (f:Fl) (hl:f.loads.length≤1000):Pure Tryd.prog 27 [f.av] (fun v=>v=tr (f.loads.map (·.hi)) (f.loads.map (·.thi))):=by
  refine Pure.give2 Tryd.call27 fun h hold=>?_
  refine ACalls.of tab mixed Tryd.call27 Tryd.func27 rfl (fi:=⟨37,[2,3],[1,21,32],none,[(5,[0,1,0,4,0,28,60,124,252,508,1023,0,2048,0,8192,0,57344,122880,253952,516096,1040384,2097151,8191,8388607,16777215,33554431],[(0,false),(1,true),(2,false),(3,true),(4,false),(5,false),(6,false),(7,false),(8,true),(9,false),(11,false),(12,true),(13,false),(14,true),(15,false),(16,false),(17,false),(18,false),(19,true),(20,false),(10,false),(22,false),(21,false),(23,false),(24,false),(25,false)])]⟩) rfl rfl (Nat.le_of_ble_eq_true rfl) (by decide) ?_
  unfold startA
  simp only[go_sem]
  repeat' (first|refine st_seq_reg rfl (by first|(simp only[go_sem];rfl)|rfl) (by first|(simp only[go_sem];rfl)|rfl) ?_|refine st_op ?_|refine st_det rfl (by simp (disch:=omega) only[go_sem,wr_i64,if_yes,if_no,↓reduceIte,reduceAdd,reduceMul,reduceEqDiff,Nat.reduceBEq,reduceLeDiff];rfl) ?_|refine st_loc rfl (by simp (disch:=omega) only[go_sem,wr_i64,if_yes,if_no,↓reduceIte,reduceAdd,reduceMul,reduceEqDiff,Nat.reduceBEq,reduceLeDiff];rfl) ?_|refine st_nil ?_|refine st_seq ?_|refine st_block ?_)
  refine st_loopH (α:=GS) tab mixed [3] [_] (by repeat (first|exact trivial|refine ⟨rfl,?_⟩)) [2] [_] (by repeat (first|exact trivial|refine ⟨rfl,?_⟩)) (fun a=>[(4,.int .i64 a.i)]) [(1,_),(2,_),(3,_)] (fun a=>[[a.s1,a.s2]]) [_] (GS.hp h (·.hi) (·.thi) f.loads) (fun a=>a.i≤f.loads.length∧h.clk+1+1+1≤a.t∧(0 < a.i→h.clk≤a.b1.1∧a.b1.1 < a.t∧h.clk≤a.b2.1∧a.b2.1 < a.t∧¬ a.b1=a.b2)) (fun a=>f.loads.length - a.i) (by decide) ⟨0,h.clk+1+1+1,(0,0),(0,0)⟩ ⟨Nat.zero_le _,Nat.le_refl _,fun h=>absurd h (Nat.lt_irrefl _)⟩ (by (try simp only[go_sem]);repeat' (first|exact trivial|refine And.intro ?_ ?_|rfl|(simp (disch:=omega) only[go_sem,if_yes,if_no,↓reduceIte,reduceAdd,reduceMul,reduceEqDiff,Nat.reduceBEq,reduceLeDiff];rfl)|(simp (disch:=omega) only[go_sem,if_yes,if_no,↓reduceIte,reduceAdd,reduceMul,reduceEqDiff,Nat.reduceBEq,reduceLeDiff]))) (by (try simp only[go_sem]);repeat' (first|exact trivial|refine And.intro ?_ ?_|rfl|(simp (disch:=omega) only[go_sem,if_yes,if_no,↓reduceIte,reduceAdd,reduceMul,reduceEqDiff,Nat.reduceBEq,reduceLeDiff];rfl)|(simp (disch:=omega) only[go_sem,if_yes,if_no,↓reduceIte,reduceAdd,reduceMul,reduceEqDiff,Nat.reduceBEq,reduceLeDiff]))) (HOld.refl _) ?_
  rintro ⟨i,t,b1,b2⟩ c ⟨i1,i2,i3⟩ hc
  dsimp only at i1 i2 i3
  have hno:∀ b:Nat × Nat,h.clk≤b.1→h.at_ b=none:=by
    intro b hb
    cases e':h.at_ b with
    | none=>rfl
    | some k=>exact absurd (hold b k e') (by omega)
  by_cases e:i=0
  · subst e
    have e2:GS.hp h (·.hi) (·.thi) f.loads ⟨0,t,b1,b2⟩=h.tick t:=rfl
    rw [e2] at hc
    simp only[go_sem] at hc
    simp only[e2,go_sem]
    repeat' (first|refine st_seq_reg rfl (by first|(simp only[go_sem,big];rfl)|rfl) (by first|(simp only[go_sem,big];rfl)|rfl) ?_|refine st_reg rfl (by first|(simp only[go_sem,big];rfl)|rfl) (by first|(simp only[go_sem,big];rfl)|rfl) ?_|refine st_draw rfl (by first|(simp only[go_sem,big];rfl)|rfl) (by first|(simp only[go_sem,big];rfl)|rfl) ?_|refine st_op ?_|refine st_det rfl (by simp (disch:=omega) only[go_sem,wr_i64,if_yes,if_no,↓reduceIte,reduceAdd,reduceMul,reduceEqDiff,Nat.reduceBEq,reduceLeDiff,big];rfl) ?_|refine st_dop rfl ?_|refine st_store (by simp (disch:=omega) only[go_sem,wr_i64,if_yes,if_no,↓reduceIte,reduceAdd,reduceMul,reduceEqDiff,Nat.reduceBEq,reduceLeDiff,big];rfl) ?_|refine st_append (by simp (disch:=omega) only[go_sem,wr_i64,if_yes,if_no,↓reduceIte,reduceAdd,reduceMul,reduceEqDiff,Nat.reduceBEq,reduceLeDiff,big];rfl) ?_|(refine st_condS rfl ?_ ?_ <;> intro hg <;> (try simp only[decide_eq_true_eq,decide_eq_false_iff_not,Bool.not_eq_true',Bool.not_eq_false'] at hg))|refine st_nil ?_|refine st_dnil ?_|refine st_tN ?_|refine st_seq ?_|refine st_block ?_|refine st_skip ?_|refine st_exit ?_|refine st_ret ?_|refine st_tE ?_|refine st_bN ?_|refine st_bH ?_)
    · refine ⟨⟨0+1,c+1+1+1,(c+1,22),(c+1,33)⟩,⟨by show 0+1≤_;omega,by show _≤c+1+1+1;omega,fun _=>⟨by show h.clk≤c+1;omega,by show c+1 < c+1+1+1;omega,by show h.clk≤c+1;omega,by show c+1 < c+1+1+1;omega,fun e=>by cases e⟩⟩,by show f.loads.length - (0+1) < f.loads.length - 0;omega,(by repeat' (first|exact trivial|refine And.intro ?_ ?_|rfl|(simp (disch:=omega) only[go_sem,if_yes,if_no,↓reduceIte,reduceAdd,reduceMul,reduceEqDiff,Nat.reduceBEq,reduceLeDiff];rfl)|(simp (disch:=omega) only[go_sem,if_yes,if_no,↓reduceIte,reduceAdd,reduceMul,reduceEqDiff,Nat.reduceBEq,reduceLeDiff]))),(by repeat' (first|exact trivial|refine And.intro ?_ ?_|rfl|(simp (disch:=omega) only[go_sem,if_yes,if_no,↓reduceIte,reduceAdd,reduceMul,reduceEqDiff,Nat.reduceBEq,reduceLeDiff];rfl)|(simp (disch:=omega) only[go_sem,if_yes,if_no,↓reduceIte,reduceAdd,reduceMul,reduceEqDiff,Nat.reduceBEq,reduceLeDiff]))),rfl,by rw [GS.hp,if_neg (Nat.succ_ne_zero _)];dsimp only;rw [take_iv _ (by omega),take_iv _ (by omega)];exact ⟨fun _ _ h=>h,fun _ _ h=>h,Nat.le_refl _,rfl⟩⟩
    · simp (disch:=omega) only[AEnd,Tryd.results27,aresK,fin,go_sem,↓reduceIte,reduceEqDiff,reduceAdd,reduceLeDiff,if_yes,if_no,implies_true,true_and,and_true,List.reverse_cons,List.reverse_nil]
      have e0:f.loads=[]:=List.length_eq_zero_iff.1 (by omega)
      refine .inl ⟨tr [] [],VLe.agg (by simp only[VLes];exact ⟨_,_,rfl,VLe.nils 1,_,_,rfl,VLe.nils 1,rfl⟩) rfl,by rw [e0];rfl⟩
  · obtain ⟨g1,g2,g3,g4,g5⟩:=i3 (by omega)
    have e1:GS.s1 ⟨i,t,b1,b2⟩=.slc b1 1 0 i:=if_neg e
    have e1':GS.s2 ⟨i,t,b1,b2⟩=.slc b2 1 0 i:=if_neg e
    have e2:GS.hp h (·.hi) (·.thi) f.loads ⟨i,t,b1,b2⟩=((h.tick t).put b1 (some ⟨1,((f.loads.take i).map (·.hi)).map iv⟩)).put b2 (some ⟨1,((f.loads.take i).map (·.thi)).map iv⟩):=if_neg e
    rw [e2] at hc
    simp only[go_sem] at hc
    have n2:¬ b2=b1:=fun e=>g5 e.symm
    have n3:¬ b2=(c+1,22):=fun e=>by rw [e] at g4;exact absurd g4 (by show ¬ c+1 < t;omega)
    have n5:¬ b1=(c+1,22):=fun e=>by rw [e] at g2;exact absurd g2 (by show ¬ c+1 < t;omega)
    simp only[e1,e1',e2,go_sem]
    repeat' (first|refine st_seq_reg rfl (by first|(simp only[go_sem,big,g5,n2,n3,n5,length_map,List.length_take];rfl)|rfl) (by first|(simp only[go_sem,big,g5,n2,n3,n5,length_map,List.length_take];rfl)|rfl) ?_|refine st_reg rfl (by first|(simp only[go_sem,big,g5,n2,n3,n5,length_map,List.length_take];rfl)|rfl) (by first|(simp only[go_sem,big,g5,n2,n3,n5,length_map,List.length_take];rfl)|rfl) ?_|refine st_draw rfl (by first|(simp only[go_sem,big,g5,n2,n3,n5,length_map,List.length_take];rfl)|rfl) (by first|(simp only[go_sem,big,g5,n2,n3,n5,length_map,List.length_take];rfl)|rfl) ?_|refine st_op ?_|refine st_det rfl (by simp (disch:=omega) only[go_sem,wr_i64,if_yes,if_no,↓reduceIte,reduceAdd,reduceMul,reduceEqDiff,Nat.reduceBEq,reduceLeDiff,big,g5,n2,n3,n5,length_map,List.length_take];rfl) ?_|refine st_dop rfl ?_|refine st_store (by simp (disch:=omega) only[go_sem,wr_i64,if_yes,if_no,↓reduceIte,reduceAdd,reduceMul,reduceEqDiff,Nat.reduceBEq,reduceLeDiff,big,g5,n2,n3,n5,length_map,List.length_take];rfl) ?_|refine st_append (by simp (disch:=omega) only[go_sem,wr_i64,if_yes,if_no,↓reduceIte,reduceAdd,reduceMul,reduceEqDiff,Nat.reduceBEq,reduceLeDiff,big,g5,n2,n3,n5,length_map,List.length_take];rfl) ?_|(refine st_condS rfl ?_ ?_ <;> intro hg <;> (try simp only[decide_eq_true_eq,decide_eq_false_iff_not,Bool.not_eq_true',Bool.not_eq_false'] at hg))|refine st_nil ?_|refine st_dnil ?_|refine st_tN ?_|refine st_seq ?_|refine st_block ?_|refine st_skip ?_|refine st_exit ?_|refine st_ret ?_|refine st_tE ?_|refine st_bN ?_|refine st_bH ?_)
    · refine ⟨⟨i+1,c+1+1+1,(c+1,22),(c+1,33)⟩,⟨by show i+1≤_;omega,by show _≤c+1+1+1;omega,fun _=>⟨by show h.clk≤c+1;omega,by show c+1 < c+1+1+1;omega,by show h.clk≤c+1;omega,by show c+1 < c+1+1+1;omega,fun e=>by cases e⟩⟩,by show f.loads.length - (i+1) < f.loads.length - i;omega,(by repeat' (first|exact trivial|refine And.intro ?_ ?_|rfl|(simp (disch:=omega) only[go_sem,if_yes,if_no,↓reduceIte,reduceAdd,reduceMul,reduceEqDiff,Nat.reduceBEq,reduceLeDiff];rfl)|(simp (disch:=omega) only[go_sem,if_yes,if_no,↓reduceIte,reduceAdd,reduceMul,reduceEqDiff,Nat.reduceBEq,reduceLeDiff]))),(by repeat' (first|exact trivial|refine And.intro ?_ ?_|rfl|(simp (disch:=omega) only[go_sem,if_yes,if_no,↓reduceIte,reduceAdd,reduceMul,reduceEqDiff,Nat.reduceBEq,reduceLeDiff];rfl)|(simp (disch:=omega) only[go_sem,if_yes,if_no,↓reduceIte,reduceAdd,reduceMul,reduceEqDiff,Nat.reduceBEq,reduceLeDiff]))),rfl,by rw [GS.hp,if_neg (Nat.succ_ne_zero _)];dsimp only;rw [take_iv _ (by omega),take_iv _ (by omega)];exact hold4 (Nat.le_refl _) (congrArg (· ++ [_]) (List.take_of_length_le (by rw [length_map,length_map,List.length_take];omega)).symm) (congrArg (· ++ [_]) (List.take_of_length_le (by rw [length_map,length_map,List.length_take];omega)).symm) (hno _ g1) (hno _ g3) (fun e=>n3 e.symm) (fun e=>by cases e)⟩
    · simp (disch:=omega) only[AEnd,Tryd.results27,aresK,fin,go_sem,↓reduceIte,reduceEqDiff,reduceAdd,reduceLeDiff,if_yes,if_no,implies_true,true_and,and_true,List.reverse_cons,List.reverse_nil]
      have e0:i=f.loads.length:=by omega
      subst e0
      refine ⟨fun b' hb'=>?_,.inr ⟨b1,⟨1,((f.loads.take f.loads.length).map (·.hi)).map iv⟩,b2,⟨1,((f.loads.take f.loads.length).map (·.thi)).map iv⟩,g1,g3,n2,?_,?_,?_⟩⟩
      · rw [if_neg (fun e=>by rw [e] at hb';omega),if_neg (fun e=>by rw [e] at hb';omega)]
      · exact (if_neg g5).trans (if_pos rfl)
      · exact if_pos rfl
      · simp only[List.take_length]
        simp [frz,frzs,n2,frz_iv,tr,List.take_of_length_le,-List.map_map]
end Go.Proofs.YtaijkalhkgjakaaDoor
