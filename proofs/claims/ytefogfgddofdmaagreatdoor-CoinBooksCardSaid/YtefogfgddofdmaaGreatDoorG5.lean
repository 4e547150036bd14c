/- Contracts of functions that the claim reaches: what each call gives, told in our own logic. Conditions: those of each theorem. -/
import Derived.Test.YtefogfgddofdmaaGreatDoorG4
open Nat (reduceAdd reduceMul reduceEqDiff reduceLeDiff)
set_option linter.all false
set_option linter.unusedSimpArgs false
set_option linter.unusedVariables false
namespace Go.Proofs.YtefogfgddofdmaaGreatDoor
open Go.Av
attribute [local irreducible] thenA blockA awp awpOps awpD awp1
set_option maxHeartbeats 8000000
set_option maxRecDepth 20000
def wkN (g:Nat→List Int) (a:Nat):Nat→List Int
  | 0=>[]
  | k+1=>wkN g a k ++ g (a+k)
def walkL (B:Nat):Nat→Int→Nat→List Int
  | 0,s,_=>[s]
  | m+1,s,next=>wkN (fun i=>walkL B m (wthB s (i:Nat)) (i+1)) next (B - next)
def ycell (l:Nat):AV:=.iptr [.fn (.yield l) [] []] 0
@[go_sem] theorem ycell_eq (l:Nat):ycell l=.iptr [.fn (.yield l) [] []] 0:=rfl
def wcap (l B:Nat):List AV:=[.iptr [.fn (.yield l) [] []] 0,.iptr [.int .i64 (B:Nat)] 0]
@[go_sem] theorem knot_s (l B n:Nat):knot (.func 76) (wcap l B) (n+1)=.iptr [.fn (.func 76) [] [.iptr [.fn (.yield l) [] []] 0,.iptr [.int .i64 (B:Nat)] 0,knot (.func 76) (wcap l B) n]] 0:=rfl
theorem c61 (a b:Int):Pure Tryz.prog 61 [.int .i64 a,.int .i64 b] (fun v=>v=.fn (.func 75) [] [.iptr [.int .i64 a] 0,.iptr [.int .i64 b] 0]):=by
  intro h
  refine ACalls.forget (ACalls.of tab mixed Tryz.call61 Tryz.func61 rfl (fi:=⟨6,[],[2,3],none,[]⟩) rfl rfl (Nat.le_of_ble_eq_true rfl) (by decide) ?_)
  unfold startA
  repeat' (first|refine st_seq_reg rfl (by first|(simp only[go_sem];rfl)|rfl) (by first|(simp only[go_sem];rfl)|rfl) ?_|refine st_reg rfl (by first|(simp only[go_sem];rfl)|rfl) (by first|(simp only[go_sem];rfl)|rfl) ?_|refine st_op ?_|refine st_det rfl (by simp (disch:=omega) only[go_sem,wr_i64,if_yes,if_no,↓reduceIte,reduceAdd,reduceMul,reduceEqDiff,Nat.reduceBEq,reduceLeDiff];rfl) ?_|refine st_loc rfl (by simp (disch:=omega) only[go_sem,wr_i64,if_yes,if_no,↓reduceIte,reduceAdd,reduceMul,reduceEqDiff,Nat.reduceBEq,reduceLeDiff];rfl) ?_|refine st_heap rfl (by simp (disch:=omega) only[go_sem,wr_i64,if_yes,if_no,↓reduceIte,reduceAdd,reduceMul,reduceEqDiff,Nat.reduceBEq,reduceLeDiff];rfl) ?_|refine st_nil ?_|refine st_tN ?_|refine st_seq ?_|refine st_skip ?_|refine st_ret ?_|refine st_tE ?_|refine st_tR ?_)
  simp (disch:=omega) only[AEnd,Tryz.results61,aresK,fin,go_sem,↓reduceIte,reduceEqDiff,reduceAdd,reduceLeDiff,if_yes,if_no,implies_true,true_and,and_true,List.reverse_cons,List.reverse_nil]
theorem fnd_none {p:Int→Bool} {a b:List Int} (h:a.find? p=none) (k:b.find? p=none):(a ++ b).find? p=none:=by rw [List.find?_append,h,k];rfl
theorem fnd_some {p:Int→Bool} {a b:List Int} {x:Int} (h:a.find? p=none) (k:b.find? p=some x):(a ++ b).find? p=some x:=by rw [List.find?_append,h,k];rfl
theorem wkN_pre {g:Nat→List Int} {a:Nat} {p:Int→Bool} {x:Int} {k:Nat} (h:(wkN g a k).find? p=some x):∀ {j:Nat},k≤j→(wkN g a j).find? p=some x
  | 0,hj=>by
    obtain rfl:k=0:=by omega
    exact h
  | j+1,hj=>by
    by_cases e:k=j+1
    · rw [← e];exact h
    · show (wkN g a j ++ g (a+j)).find? p=some x
      rw [List.find?_append,wkN_pre h (by omega)];rfl
theorem addc2 (a b:Nat):((a+(b+1):Nat):Int)=((a+b:Nat):Int)+1:=by omega
theorem c76 (l B:Nat) (hB:B≤8) (I:AH→Prop) (D:Int→AH→Prop) (bad:Int→Bool) (hI:∀ g n,I g→g.clk≤n→I (g.tick n)) (hD:∀ x g n,D x g→g.clk≤n→D x (g.tick n))
    (hy:∀ s g,I g→AYields Tryz.prog l [.int .i64 s] g (fun v h'=>(bad s=false∧v=.bool true∧I h') ∨ (bad s=true∧v=.bool false∧D s h'))) :
    ∀ (m d:Nat),m≤d→m≤8→∀ (s:Int) (next:Nat) (nx mo:Int) (h:AH),nx=(next:Nat)→mo=(m:Nat)→next≤B→I h →
    ACalls Tryz.prog 76 [.int .i64 s,.int .i64 nx,.int .i64 mo,.iptr [.fn (.yield l) [] []] 0,.iptr [.int .i64 (B:Nat)] 0,knot (.func 76) (wcap l B) d] h (fun v h'=>((walkL B m s next).find? bad=none∧v=.bool true∧I h') ∨ ∃ x,(walkL B m s next).find? bad=some x∧v=.bool false∧D x h'):=by
  intro m
  induction m with
  | zero =>
    rintro d hmd hm8 s next nx mo h rfl rfl hnb hi
    refine ACalls.of tab mixed Tryz.call76 Tryz.func76 rfl (fi:=⟨32,[],[],none,[(6,[0,0,0,6,0,16,0,64,255,511],[(0,true),(1,false),(2,false),(4,false),(5,false),(6,false),(7,false),(3,false),(8,false),(9,false)])]⟩) rfl rfl (Nat.le_of_ble_eq_true rfl) (by decide) ?_
    unfold startA
    repeat' (first|refine st_seq_reg rfl (by first|(simp only[go_sem];rfl)|rfl) (by first|(simp only[go_sem];rfl)|rfl) ?_|refine st_reg rfl (by first|(simp only[go_sem];rfl)|rfl) (by first|(simp only[go_sem];rfl)|rfl) ?_|refine st_seq_draw rfl (by first|(simp only[go_sem];rfl)|rfl) (by first|(simp only[go_sem];rfl)|rfl) ?_|refine st_draw rfl (by first|(simp only[go_sem];rfl)|rfl) (by first|(simp only[go_sem];rfl)|rfl) ?_|refine st_op ?_|refine st_det rfl (by simp (disch:=omega) only[go_sem,wr_i64,if_yes,if_no,↓reduceIte,reduceAdd,reduceMul,reduceEqDiff,Nat.reduceBEq,reduceLeDiff];rfl) ?_|refine st_dop rfl ?_|(refine st_yield rfl (by first|(simp (disch:=omega) only[go_sem];rfl)|(simp (disch:=omega) only[go_sem])) rfl (hy s _ (hI h _ hi (by omega))) ?_;rintro v h' (⟨hb,rfl,hi2⟩|⟨hb,rfl,hd2⟩))|refine st_condT rfl ?_|refine st_condF rfl ?_|(refine st_condS rfl ?_ ?_ <;> intro hg <;> (try simp only[decide_eq_true_eq,decide_eq_false_iff_not,Bool.not_eq_true',Bool.not_eq_false'] at hg))|refine st_nil ?_|refine st_dnil ?_|refine st_tN ?_|refine st_seq ?_|refine st_block ?_|refine st_skip ?_|refine st_exit ?_|refine st_ret ?_|refine st_tE ?_|refine st_tR ?_|refine st_bN ?_|refine st_bR ?_|refine st_bH ?_|refine st_bM rfl ?_)
    all_goals try (exfalso;omega)
    · simp (disch:=omega) only[AEnd,Tryz.results76,aresK,fin,go_sem,↓reduceIte,reduceEqDiff,reduceAdd,reduceLeDiff,if_yes,if_no,implies_true,true_and,and_true,List.reverse_cons,List.reverse_nil]
      exact .inl ⟨by simp [walkL,hb],hi2⟩
    · simp (disch:=omega) only[AEnd,Tryz.results76,aresK,fin,go_sem,↓reduceIte,reduceEqDiff,reduceAdd,reduceLeDiff,if_yes,if_no,implies_true,true_and,and_true,List.reverse_cons,List.reverse_nil]
      exact .inr ⟨s,by simp [walkL,hb],hd2⟩
  | succ m ih =>
    rintro d hmd hm8 s next nx mo h rfl rfl hnb hi
    obtain ⟨d,rfl⟩:∃ d',d=d'+1:=⟨d - 1,by omega⟩
    refine ACalls.of tab mixed Tryz.call76 Tryz.func76 rfl (fi:=⟨32,[],[],none,[(6,[0,0,0,6,0,16,0,64,255,511],[(0,true),(1,false),(2,false),(4,false),(5,false),(6,false),(7,false),(3,false),(8,false),(9,false)])]⟩) rfl rfl (Nat.le_of_ble_eq_true rfl) (by decide) ?_
    unfold startA
    simp only[go_sem]
    repeat' (first|refine st_seq_reg rfl (by first|(simp only[go_sem];rfl)|rfl) (by first|(simp only[go_sem];rfl)|rfl) ?_|refine st_reg rfl (by first|(simp only[go_sem];rfl)|rfl) (by first|(simp only[go_sem];rfl)|rfl) ?_|refine st_seq_draw rfl (by first|(simp only[go_sem];rfl)|rfl) (by first|(simp only[go_sem];rfl)|rfl) ?_|refine st_draw rfl (by first|(simp only[go_sem];rfl)|rfl) (by first|(simp only[go_sem];rfl)|rfl) ?_|refine st_op ?_|refine st_det rfl (by simp (disch:=omega) only[go_sem,wr_i64,if_yes,if_no,↓reduceIte,reduceAdd,reduceMul,reduceEqDiff,Nat.reduceBEq,reduceLeDiff];rfl) ?_|refine st_dop rfl ?_|refine st_condT rfl ?_|refine st_condF rfl ?_|(refine st_condS rfl ?_ ?_ <;> intro hg <;> (try simp only[decide_eq_true_eq,decide_eq_false_iff_not,Bool.not_eq_true',Bool.not_eq_false'] at hg))|refine st_nil ?_|refine st_dnil ?_|refine st_tN ?_|refine st_seq ?_|refine st_block ?_|refine st_skip ?_|refine st_exit ?_|refine st_ret ?_|refine st_tE ?_|refine st_tR ?_|refine st_bN ?_|refine st_bR ?_|refine st_bH ?_|refine st_bM rfl ?_)
    all_goals try (exfalso;omega)
    refine st_loopH (α:=Nat × AH) tab mixed [] [] (by repeat (first|exact trivial|refine ⟨rfl,?_⟩)) [] [] (by repeat (first|exact trivial|refine ⟨rfl,?_⟩)) (fun a=>[(10,.int .i64 ((next+a.1:Nat):Int))]) [(0,_),(2,_),(3,_),(4,_),(5,_)] (fun _=>[]) [] (fun a=>a.2) (fun a=>next+a.1≤B∧(wkN (fun i=>walkL B m (wthB s (i:Nat)) (i+1)) next a.1).find? bad=none∧I a.2) (fun a=>B - (next+a.1)) (by decide) (0,h) ⟨hnb,rfl,hi⟩ (by (try simp only[go_sem]);repeat' (first|exact trivial|refine And.intro ?_ ?_|rfl|(simp (disch:=omega) only[go_sem,if_yes,if_no,↓reduceIte,reduceAdd,reduceMul,reduceEqDiff,Nat.reduceBEq,reduceLeDiff];rfl)|(simp (disch:=omega) only[go_sem,if_yes,if_no,↓reduceIte,reduceAdd,reduceMul,reduceEqDiff,Nat.reduceBEq,reduceLeDiff]))) (by (try simp only[go_sem]);repeat' (first|exact trivial|refine And.intro ?_ ?_|rfl|(simp (disch:=omega) only[go_sem,if_yes,if_no,↓reduceIte,reduceAdd,reduceMul,reduceEqDiff,Nat.reduceBEq,reduceLeDiff];rfl)|(simp (disch:=omega) only[go_sem,if_yes,if_no,↓reduceIte,reduceAdd,reduceMul,reduceEqDiff,Nat.reduceBEq,reduceLeDiff]))) (HOld.tick (by simp only[go_sem];omega)) ?_
    rintro ⟨k,g⟩ c ⟨i1,i2,i3⟩ hc
    dsimp only at i1 i2 i3 hc
    simp only[go_sem]
    repeat' (first|refine st_seq_reg rfl (by first|(simp only[go_sem];rfl)|rfl) (by first|(simp only[go_sem];rfl)|rfl) ?_|refine st_reg rfl (by first|(simp only[go_sem];rfl)|rfl) (by first|(simp only[go_sem];rfl)|rfl) ?_|refine st_seq_draw rfl (by first|(simp only[go_sem];rfl)|rfl) (by first|(simp only[go_sem];rfl)|rfl) ?_|refine st_draw rfl (by first|(simp only[go_sem];rfl)|rfl) (by first|(simp only[go_sem];rfl)|rfl) ?_|refine st_op ?_|refine st_det rfl (by simp (disch:=omega) only[go_sem,wr_i64,if_yes,if_no,↓reduceIte,reduceAdd,reduceMul,reduceEqDiff,Nat.reduceBEq,reduceLeDiff];rfl) ?_|refine st_dop rfl ?_|(refine st_pureE (by first|(simp (disch:=omega) only[go_sem];rfl)|rfl) rfl (c77 s ((next+k:Nat):Int) (by omega)) (by first|(simp only[go_sem];rfl)|rfl) (by intro n;first|(simp (disch:=omega) only[go_sem];rfl)|rfl) ?_;intro n hn)|(refine st_call (args:=[.int .i64 (wthB s ((next+k:Nat):Int)),.int .i64 (((next+k:Nat):Int)+1),.int .i64 (((m+1:Nat):Int) - 1)]) rfl (by first|(simp (disch:=omega) only[go_sem,wr_i64];rfl)|(simp (disch:=omega) only[go_sem])) rfl (ih d (by omega) (by omega) (wthB s ((next+k:Nat):Int)) (next+k+1) _ _ _ (by omega) (by omega) (by omega) (hI g _ i3 (by omega))) ?_;rintro v h' (⟨hf,rfl,hi2⟩|⟨x,hf,rfl,hd2⟩))|refine st_condT rfl ?_|refine st_condF rfl ?_|(refine st_condS rfl ?_ ?_ <;> intro hg <;> (try simp only[decide_eq_true_eq,decide_eq_false_iff_not,Bool.not_eq_true',Bool.not_eq_false'] at hg))|refine st_nil ?_|refine st_dnil ?_|refine st_tN ?_|refine st_seq ?_|refine st_block ?_|refine st_skip ?_|refine st_exit ?_|refine st_ret ?_|refine st_tE ?_|refine st_tR ?_|refine st_bN ?_|refine st_bR ?_|refine st_bH ?_|refine st_bM rfl ?_)
    · refine ⟨(k+1,h'),⟨by show next+(k+1)≤B;omega,fnd_none i2 hf,hi2⟩,by show B - (next+(k+1)) < B - (next+k);omega,(by (try (try simp only[go_sem,addc2]));repeat' (first|exact trivial|refine And.intro ?_ ?_|rfl|(simp (disch:=omega) only[go_sem,if_yes,if_no,↓reduceIte,reduceAdd,reduceMul,reduceEqDiff,Nat.reduceBEq,reduceLeDiff];rfl)|(simp (disch:=omega) only[go_sem,if_yes,if_no,↓reduceIte,reduceAdd,reduceMul,reduceEqDiff,Nat.reduceBEq,reduceLeDiff]))),(by (try (try simp only[go_sem,addc2]));repeat' (first|exact trivial|refine And.intro ?_ ?_|rfl|(simp (disch:=omega) only[go_sem,if_yes,if_no,↓reduceIte,reduceAdd,reduceMul,reduceEqDiff,Nat.reduceBEq,reduceLeDiff];rfl)|(simp (disch:=omega) only[go_sem,if_yes,if_no,↓reduceIte,reduceAdd,reduceMul,reduceEqDiff,Nat.reduceBEq,reduceLeDiff]))),rfl,HOld.tick (Nat.le_succ _)⟩
    · simp (disch:=omega) only[AEnd,Tryz.results76,aresK,fin,go_sem,↓reduceIte,reduceEqDiff,reduceAdd,reduceLeDiff,if_yes,if_no,implies_true,true_and,and_true,List.reverse_cons,List.reverse_nil]
      exact .inr ⟨x,wkN_pre (k:=k+1) (fnd_some i2 hf) (by omega),hD _ _ _ hd2 (Nat.le_succ _)⟩
    · have e:k=B - next:=by omega
      subst e
      simp (disch:=omega) only[AEnd,Tryz.results76,aresK,fin,go_sem,↓reduceIte,reduceEqDiff,reduceAdd,reduceLeDiff,if_yes,if_no,implies_true,true_and,and_true,List.reverse_cons,List.reverse_nil]
      exact .inl ⟨i2,hI _ _ i3 (by omega)⟩
theorem c75 (l B m:Nat) (hB:B≤8) (hm:m≤8) (I:AH→Prop) (D:Int→AH→Prop) (bad:Int→Bool) (hI:∀ g n,I g→g.clk≤n→I (g.tick n)) (hD:∀ x g n,D x g→g.clk≤n→D x (g.tick n))
    (hy:∀ s g,I g→AYields Tryz.prog l [.int .i64 s] g (fun v h'=>(bad s=false∧v=.bool true∧I h') ∨ (bad s=true∧v=.bool false∧D s h'))) (h:AH) (h0:I h) (hP:∀ n b,h.clk≤n→h.clk≤b.1→I ((h.tick n).put b none)) :
    ACalls Tryz.prog 75 [.fn (.yield l) [] [],.iptr [.int .i64 (B:Nat)] 0,.iptr [.int .i64 (m:Nat)] 0] h (fun _ h'=>((walkL B m 0 0).find? bad=none∧I h') ∨ ∃ x,(walkL B m 0 0).find? bad=some x∧D x h'):=by
  refine ACalls.ofS tab Tryz.call75 Tryz.func75 rfl (fi:=⟨9,[],[3],none,[]⟩) rfl rfl (Nat.le_of_ble_eq_true rfl) ?_
  unfold startA
  refine asem_seq (fi:=⟨9,[],[3],none,[]⟩) tab mixed (by decide) ?_
  repeat' (first|refine st_seq_reg rfl (by first|(simp only[go_sem];rfl)|rfl) (by first|(simp only[go_sem];rfl)|rfl) ?_|refine st_reg rfl (by first|(simp only[go_sem];rfl)|rfl) (by first|(simp only[go_sem];rfl)|rfl) ?_|refine st_op ?_|refine st_det rfl (by simp (disch:=omega) only[go_sem,wr_i64,if_yes,if_no,↓reduceIte,reduceAdd,reduceMul,reduceEqDiff,Nat.reduceBEq,reduceLeDiff];rfl) ?_|refine st_loc rfl (by simp (disch:=omega) only[go_sem,wr_i64,if_yes,if_no,↓reduceIte,reduceAdd,reduceMul,reduceEqDiff,Nat.reduceBEq,reduceLeDiff];rfl) ?_|refine st_heap rfl (by simp (disch:=omega) only[go_sem,wr_i64,if_yes,if_no,↓reduceIte,reduceAdd,reduceMul,reduceEqDiff,Nat.reduceBEq,reduceLeDiff];rfl) ?_|refine st_store (by simp (disch:=omega) only[go_sem,wr_i64,if_yes,if_no,↓reduceIte,reduceAdd,reduceMul,reduceEqDiff,Nat.reduceBEq,reduceLeDiff];rfl) ?_|refine st_nil ?_|refine st_tN ?_|refine st_seq ?_|refine st_skip ?_|refine st_ret ?_|refine st_tE ?_|refine st_tR ?_)
  refine asem_seq (fi:=⟨9,[],[3],none,[]⟩) tab mixed (by decide) ?_
  repeat' (first|refine st_seq_reg rfl (by first|(simp only[go_sem];rfl)|rfl) (by first|(simp only[go_sem];rfl)|rfl) ?_|refine st_reg rfl (by first|(simp only[go_sem];rfl)|rfl) (by first|(simp only[go_sem];rfl)|rfl) ?_|refine st_op ?_|refine st_det rfl (by simp (disch:=omega) only[go_sem,wr_i64,if_yes,if_no,↓reduceIte,reduceAdd,reduceMul,reduceEqDiff,Nat.reduceBEq,reduceLeDiff];rfl) ?_|refine st_loc rfl (by simp (disch:=omega) only[go_sem,wr_i64,if_yes,if_no,↓reduceIte,reduceAdd,reduceMul,reduceEqDiff,Nat.reduceBEq,reduceLeDiff];rfl) ?_|refine st_heap rfl (by simp (disch:=omega) only[go_sem,wr_i64,if_yes,if_no,↓reduceIte,reduceAdd,reduceMul,reduceEqDiff,Nat.reduceBEq,reduceLeDiff];rfl) ?_|refine st_store (by simp (disch:=omega) only[go_sem,wr_i64,if_yes,if_no,↓reduceIte,reduceAdd,reduceMul,reduceEqDiff,Nat.reduceBEq,reduceLeDiff];rfl) ?_|refine st_nil ?_|refine st_tN ?_|refine st_seq ?_|refine st_skip ?_|refine st_ret ?_|refine st_tE ?_|refine st_tR ?_)
  refine asem_seq (fi:=⟨9,[],[3],none,[]⟩) tab mixed (by decide) ?_
  repeat' (first|refine st_seq_reg rfl (by first|(simp only[go_sem];rfl)|rfl) (by first|(simp only[go_sem];rfl)|rfl) ?_|refine st_reg rfl (by first|(simp only[go_sem];rfl)|rfl) (by first|(simp only[go_sem];rfl)|rfl) ?_|refine st_op ?_|refine st_det rfl (by simp (disch:=omega) only[go_sem,wr_i64,if_yes,if_no,↓reduceIte,reduceAdd,reduceMul,reduceEqDiff,Nat.reduceBEq,reduceLeDiff];rfl) ?_|refine st_loc rfl (by simp (disch:=omega) only[go_sem,wr_i64,if_yes,if_no,↓reduceIte,reduceAdd,reduceMul,reduceEqDiff,Nat.reduceBEq,reduceLeDiff];rfl) ?_|refine st_heap rfl (by simp (disch:=omega) only[go_sem,wr_i64,if_yes,if_no,↓reduceIte,reduceAdd,reduceMul,reduceEqDiff,Nat.reduceBEq,reduceLeDiff];rfl) ?_|refine st_store (by simp (disch:=omega) only[go_sem,wr_i64,if_yes,if_no,↓reduceIte,reduceAdd,reduceMul,reduceEqDiff,Nat.reduceBEq,reduceLeDiff];rfl) ?_|refine st_nil ?_|refine st_tN ?_|refine st_seq ?_|refine st_skip ?_|refine st_ret ?_|refine st_tE ?_|refine st_tR ?_)
  refine ASem.knot (g:=.func 76) (cap:=wcap l B) 4 9 rfl (by simp only[go_sem,↓reduceIte];rfl) ?_
  refine asem_awp (fi:=⟨9,[],[3],none,[]⟩) tab mixed (by decide) ?_
  simp only[go_sem]
  have hw:=hP (h.clk+1+1+1+1) (h.clk+1,4) (by omega) (by show h.clk≤h.clk+1;omega)
  repeat' (first|refine st_seq_reg rfl (by first|(simp only[go_sem];rfl)|rfl) (by first|(simp only[go_sem];rfl)|rfl) ?_|refine st_reg rfl (by first|(simp only[go_sem];rfl)|rfl) (by first|(simp only[go_sem];rfl)|rfl) ?_|refine st_op ?_|refine st_det rfl (by simp (disch:=omega) only[go_sem,wr_i64,if_yes,if_no,↓reduceIte,reduceAdd,reduceMul,reduceEqDiff,Nat.reduceBEq,reduceLeDiff];rfl) ?_|refine st_loc rfl (by simp (disch:=omega) only[go_sem,wr_i64,if_yes,if_no,↓reduceIte,reduceAdd,reduceMul,reduceEqDiff,Nat.reduceBEq,reduceLeDiff];rfl) ?_|refine st_heap rfl (by simp (disch:=omega) only[go_sem,wr_i64,if_yes,if_no,↓reduceIte,reduceAdd,reduceMul,reduceEqDiff,Nat.reduceBEq,reduceLeDiff];rfl) ?_|refine st_store (by simp (disch:=omega) only[go_sem,wr_i64,if_yes,if_no,↓reduceIte,reduceAdd,reduceMul,reduceEqDiff,Nat.reduceBEq,reduceLeDiff];rfl) ?_|(refine st_call (args:=[.int .i64 0,.int .i64 0,.int .i64 ((m:Nat):Int)]) rfl (by first|(simp (disch:=omega) only[go_sem];rfl)|(simp (disch:=omega) only[go_sem])) rfl (c76 l B hB I D bad hI hD hy m 8 (by omega) (by omega) 0 0 _ _ _ rfl rfl (Nat.zero_le _) hw) ?_;rintro v h' (⟨hf,rfl,hi2⟩|⟨x,hf,rfl,hd2⟩))|refine st_nil ?_|refine st_tN ?_|refine st_seq ?_|refine st_skip ?_|refine st_ret ?_|refine st_tE ?_|refine st_tR ?_)
  · simp (disch:=omega) only[AEnd,Tryz.results75,aresK,fin,go_sem,↓reduceIte,reduceEqDiff,reduceAdd,reduceLeDiff,if_yes,if_no,implies_true,true_and,and_true,List.reverse_cons,List.reverse_nil]
    exact .inl ⟨hf,hi2⟩
  · simp (disch:=omega) only[AEnd,Tryz.results75,aresK,fin,go_sem,↓reduceIte,reduceEqDiff,reduceAdd,reduceLeDiff,if_yes,if_no,implies_true,true_and,and_true,List.reverse_cons,List.reverse_nil]
    exact .inr ⟨x,hf,hd2⟩
end Go.Proofs.YtefogfgddofdmaaGreatDoor
