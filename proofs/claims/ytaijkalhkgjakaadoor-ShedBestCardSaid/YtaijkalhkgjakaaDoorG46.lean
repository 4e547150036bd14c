/- Contracts of functions that the claim reaches: what each call gives, told in our own logic. Conditions: those of each theorem. -/
import Derived.Test.YtaijkalhkgjakaaDoorG45
open Nat (reduceAdd reduceMul reduceEqDiff reduceLeDiff)
open List (length_map)
set_option linter.all false
set_option linter.unusedSimpArgs false
set_option linter.unusedVariables false
namespace Go.Proofs.YtaijkalhkgjakaaDoor
open Go.Av
attribute [local irreducible] thenA blockA awp awpOps awpD awp1
set_option maxHeartbeats 8000000
set_option maxRecDepth 20000
def rowR (S:Sp) (x:Rf) (j w:Nat):List Rf:=(List.range w).filterMap (kidR S x j)
def preR (S:Sp) (x:Rf) (j w:Nat):List Rf:=(List.range j).flatMap (fun j=>rowR S x j S.ws.length) ++ rowR S x j w
theorem rowR_succ (S:Sp) (x:Rf) (j w:Nat):rowR S x j (w+1)=rowR S x j w ++ (kidR S x j w).toList:=by
  unfold rowR;rw [List.range_succ,List.filterMap_append]
  simp only[List.filterMap_cons,List.filterMap_nil]
  cases kidR S x j w <;> rfl
theorem preR_some {S:Sp} {x y:Rf} {j w:Nat} (h:kidR S x j w=some y):preR S x j (w+1)=preR S x j w ++ [y]:=by
  unfold preR;rw [rowR_succ,h,List.append_assoc];rfl
theorem preR_none {S:Sp} {x:Rf} {j w:Nat} (h:kidR S x j w=none):preR S x j (w+1)=preR S x j w:=by
  unfold preR;rw [rowR_succ,h];simp
theorem preR_row (S:Sp) (x:Rf) (j:Nat):preR S x (j+1) 0=preR S x j S.ws.length:=by
  unfold preR;rw [List.range_succ,List.flatMap_append];simp [rowR]
theorem preR_end (S:Sp) (x:Rf):preR S x S.js.length 0=kidsR S x:=by
  unfold preR kidsR;simp [rowR]
theorem preR_zero {S:Sp} {x:Rf} {j:Nat} (h:nextR S.js x j=false):∀ w,preR S x j w=preR S x j 0:=by
  intro w
  induction w with
  | zero=>rfl
  | succ w ih=>rw [preR_none (by unfold kidR;rw [h];rfl),ih]
def stR (S:Sp) (f:Nat) (x:Rf) (st:List Sf × Bool) (j w:Nat):List Sf × Bool:=(preR S x j w).foldl (fun st y=>searchR S f y st) st
theorem stR_some {S:Sp} {f:Nat} {x y:Rf} {st:List Sf × Bool} {j w:Nat} (h:kidR S x j w=some y):searchR S f y ((stR S f x st j w).1,(stR S f x st j w).2)=stR S f x st j (w+1):=by
  unfold stR;rw [preR_some h,List.foldl_append];rfl
theorem stR_none {S:Sp} {f:Nat} {x:Rf} {st:List Sf × Bool} {j w:Nat} (h:kidR S x j w=none):stR S f x st j (w+1)=stR S f x st j w:=by
  unfold stR;rw [preR_none h]
theorem stR_row (S:Sp) (f:Nat) (x:Rf) (st:List Sf × Bool) (j:Nat):stR S f x st (j+1) 0=stR S f x st j S.ws.length:=by
  unfold stR;rw [preR_row]
theorem stR_skip {S:Sp} {f:Nat} {x:Rf} {st:List Sf × Bool} {j w:Nat} (h:nextR S.js x j=false):stR S f x st (j+1) 0=stR S f x st j w:=by
  unfold stR;rw [preR_row,preR_zero h,preR_zero h w]
theorem stR_end (S:Sp) (f:Nat) (x:Rf) (st:List Sf × Bool):stR S f x st S.js.length 0=searchR S (f+1) x st:=by
  unfold stR;rw [preR_end];rfl
structure PBd (S:Sp) (p:List Sf):Prop where
  l:p.length=S.js.length
  d:∀ i,0≤(pAt p i).d∧(pAt p i).d≤300
theorem kidR_some {S:Sp} {x y:Rf} {j w:Nat} (h:kidR S x j w=some y):y=withR S.js x j w:=by
  unfold kidR at h
  split at h
  · injection h with h;exact h.symm
  · cases h
theorem searchR_pbd {S:Sp} (hS:S.Ok):∀ (f:Nat) (x:Rf) (st:List Sf × Bool),f≤9→XB S f x→PBd S st.1→PBd S (searchR S f x st).1:=by
  intro f
  induction f with
  | zero =>
    intro x st _ hX hp
    simp only[searchR]
    split
    · exact ⟨hX.pl,hX.p⟩
    · exact hp
  | succ f ih =>
    intro x st hf hX hp
    simp only[searchR]
    have:∀ (l:List Rf) (st:List Sf × Bool),(∀ y ∈ l,XB S f y)→PBd S st.1→PBd S (l.foldl (fun st y=>searchR S f y st) st).1:=by
      intro l
      induction l with
      | nil=>intro st _ h;exact h
      | cons y l ihl =>
        intro st hl h
        exact ihl _ (fun z hz=>hl z (by simp [hz])) (ih y st (by omega) (hl y (by simp)) h)
    refine this _ st (fun y hy=>?_) hp
    obtain ⟨j,w,hj,hw,hk⟩:=mem_kidsR.1 hy
    rw [kidR_some hk]
    exact hX.next hS (by omega) hj hw
theorem stR_pbd {S:Sp} (hS:S.Ok) {f:Nat} {x:Rf} {st:List Sf × Bool} (hf:f≤8) (hX:XB S (f+1) x) (hp:PBd S st.1) {j w:Nat} (hj:j < S.js.length) (hw:w≤S.ws.length):PBd S (stR S f x st j w).1:=by
  have:∀ (l:List Rf) (st:List Sf × Bool),(∀ y ∈ l,XB S f y)→PBd S st.1→PBd S (l.foldl (fun st y=>searchR S f y st) st).1:=by
    intro l
    induction l with
    | nil=>intro st _ h;exact h
    | cons y l ihl =>
      intro st hl h
      exact ihl _ (fun z hz=>hl z (by simp [hz])) (searchR_pbd hS f y st (by omega) (hl y (by simp)) h)
  refine this _ st (fun y hy=>?_) hp
  have hmem:∃ j' w',j' < S.js.length∧w' < S.ws.length∧kidR S x j' w'=some y:=by
    unfold preR rowR at hy
    rw [List.mem_append] at hy
    rcases hy with hy|hy
    · simp only[List.mem_flatMap,List.mem_range,List.mem_filterMap] at hy
      obtain ⟨j',h1,w',h2,h3⟩:=hy
      exact ⟨j',w',by omega,h2,h3⟩
    · simp only[List.mem_filterMap,List.mem_range] at hy
      obtain ⟨w',h2,h3⟩:=hy
      exact ⟨j,w',hj,by omega,h3⟩
  obtain ⟨j',w',h1,h2,h3⟩:=hmem
  rw [kidR_some h3]
  exact hX.next hS (by omega) h1 h2
theorem c62 (S:Sp) (hS:S.Ok):∀ (f:Nat) (x:Rf) (p:List Sf) (s:Bool),f≤S.js.length→XB S f x→PBd S p →
    Pure Tryd.prog 62 [S.av,x.av,.int .i64 ((S.js.length - f:Nat):Int),.lst 2 (p.map Sf.row),.bool s] (fun v=>v=.tup [.lst 2 ((searchR S f x (p,s)).1.map Sf.row),.bool (searchR S f x (p,s)).2]):=by
  intro f
  have h7:=hS.n7
  have h4:=hS.m4
  induction f with
  | zero =>
    intro x p s hf hX hp h
    have hxl:=hX.pl
    have hplen:=hp.l
    have ka:=c63 S hS x.plan hX.pl (fun i _=>by have:=hX.p i;omega)
    have kb:=c63 S hS p hp.l (fun i _=>by have:=hp.d i;omega)
    have kc:=c94 x.plan p (by omega) (by omega)
    have e0:searchR S 0 x (p,s)=if !s || winR S x.plan p then (x.plan,true) else (p,s):=rfl
    rw [Nat.sub_zero]
    refine ACalls.forget (ACalls.of tab mixed Tryd.call62 Tryd.func62 rfl (fi:=⟨98,[],[5,6],none,[(2,[0,0,2,7,0,0,63,127,255],[(0,true),(1,false),(2,true),(4,true),(5,false),(3,false),(6,false),(7,false),(8,false)]),(12,[0,1,0,7,15,0,32,0,224,480,992,2047],[(0,false),(1,true),(2,false),(3,false),(4,true),(5,false),(6,true),(7,false),(8,false),(9,false),(10,true),(11,false)]),(13,[0,0,0,0,0,30,0,64,0,0,1023,2047,4095,4095,8191,32767],[(0,true),(1,true),(2,true),(3,false),(4,false),(6,false),(7,false),(8,false),(9,false),(5,false),(10,false),(11,false),(12,false),(13,false),(14,false),(15,false)])]⟩) rfl rfl (Nat.le_of_ble_eq_true rfl) (by decide) ?_)
    unfold startA
    try simp only[go_sem]
    cases s with
    | false =>
      have e1:searchR S 0 x (p,false)=(x.plan,true):=by rw [e0];rfl
      repeat' (first|refine st_seq_reg rfl (by first|(simp only[go_sem,length_map];rfl)|rfl) (by first|(simp only[go_sem,length_map];rfl)|rfl) ?_|refine st_seq_draw rfl (by first|(simp only[go_sem,length_map];rfl)|rfl) (by first|(simp only[go_sem,length_map];rfl)|rfl) ?_|refine st_op ?_|refine st_det rfl (by simp (disch:=omega) only[go_sem,wr_i64,if_yes,if_no,↓reduceIte,reduceAdd,reduceMul,reduceEqDiff,Nat.reduceBEq,reduceLeDiff,length_map];rfl) ?_|refine st_dop rfl ?_|(refine st_pureE (by first|(simp (disch:=omega) only[go_sem,length_map];rfl)|rfl) rfl (ka) (by first|(simp only[go_sem,length_map];rfl)|rfl) (by intro n;first|(simp (disch:=omega) only[go_sem];rfl)|rfl) ?_;intro n hn)|(refine st_pureE (by first|(simp (disch:=omega) only[go_sem,length_map];rfl)|rfl) rfl (kb) (by first|(simp only[go_sem,length_map];rfl)|rfl) (by intro n;first|(simp (disch:=omega) only[go_sem];rfl)|rfl) ?_;intro n hn)|refine st_gF rfl rfl rfl ?_|refine st_condT rfl ?_|refine st_nil ?_|refine st_dnil ?_|refine st_seq ?_|refine st_ret ?_|refine st_tR ?_)
      all_goals try (exfalso;omega)
      simp (disch:=omega) only[AEnd,Tryd.results62,aresK,fin,go_sem,↓reduceIte,reduceEqDiff,reduceAdd,reduceLeDiff,if_yes,if_no,implies_true,true_and,and_true,List.reverse_cons,List.reverse_nil]
      rw [e1]
    | true =>
      by_cases hlt:takesP S x.plan < takesP S p
      · have e1:searchR S 0 x (p,true)=(x.plan,true):=by rw [e0];unfold winR;rw [decide_eq_true hlt];rfl
        repeat' (first|refine st_seq_reg rfl (by first|(simp only[go_sem,length_map];rfl)|rfl) (by first|(simp only[go_sem,length_map];rfl)|rfl) ?_|refine st_seq_draw rfl (by first|(simp only[go_sem,length_map];rfl)|rfl) (by first|(simp only[go_sem,length_map];rfl)|rfl) ?_|refine st_op ?_|refine st_det rfl (by simp (disch:=omega) only[go_sem,wr_i64,if_yes,if_no,↓reduceIte,reduceAdd,reduceMul,reduceEqDiff,Nat.reduceBEq,reduceLeDiff,length_map];rfl) ?_|refine st_dop rfl ?_|(refine st_pureE (by first|(simp (disch:=omega) only[go_sem,length_map];rfl)|rfl) rfl (ka) (by first|(simp only[go_sem,length_map];rfl)|rfl) (by intro n;first|(simp (disch:=omega) only[go_sem];rfl)|rfl) ?_;intro n hn)|(refine st_pureE (by first|(simp (disch:=omega) only[go_sem,length_map];rfl)|rfl) rfl (kb) (by first|(simp only[go_sem,length_map];rfl)|rfl) (by intro n;first|(simp (disch:=omega) only[go_sem];rfl)|rfl) ?_;intro n hn)|refine st_gT rfl rfl rfl ?_|refine st_gF rfl rfl rfl ?_|(refine st_gS rfl rfl ?_ ?_ <;> intro hg <;> (try simp only[decide_eq_true_eq,decide_eq_false_iff_not,Bool.not_eq_true',Bool.not_eq_false'] at hg))|refine st_condT rfl ?_|refine st_condF rfl ?_|refine st_nil ?_|refine st_dnil ?_|refine st_tN ?_|refine st_seq ?_|refine st_skip ?_|refine st_ret ?_|refine st_tR ?_)
        all_goals try (exfalso;omega)
        simp (disch:=omega) only[AEnd,Tryd.results62,aresK,fin,go_sem,↓reduceIte,reduceEqDiff,reduceAdd,reduceLeDiff,if_yes,if_no,implies_true,true_and,and_true,List.reverse_cons,List.reverse_nil]
        rw [e1]
      · by_cases heq:takesP S x.plan=takesP S p
        · cases hb:bef x.plan p with
          | true =>
            have e1:searchR S 0 x (p,true)=(x.plan,true):=by rw [e0];unfold winR;rw [decide_eq_true heq,hb];simp
            rw [hb] at kc
            repeat' (first|refine st_seq_reg rfl (by first|(simp only[go_sem,length_map];rfl)|rfl) (by first|(simp only[go_sem,length_map];rfl)|rfl) ?_|refine st_seq_draw rfl (by first|(simp only[go_sem,length_map];rfl)|rfl) (by first|(simp only[go_sem,length_map];rfl)|rfl) ?_|refine st_op ?_|refine st_det rfl (by simp (disch:=omega) only[go_sem,wr_i64,if_yes,if_no,↓reduceIte,reduceAdd,reduceMul,reduceEqDiff,Nat.reduceBEq,reduceLeDiff,length_map];rfl) ?_|refine st_dop rfl ?_|(refine st_pureE (by first|(simp (disch:=omega) only[go_sem,length_map];rfl)|rfl) rfl (ka) (by first|(simp only[go_sem,length_map];rfl)|rfl) (by intro n;first|(simp (disch:=omega) only[go_sem];rfl)|rfl) ?_;intro n hn)|(refine st_pureE (by first|(simp (disch:=omega) only[go_sem,length_map];rfl)|rfl) rfl (kb) (by first|(simp only[go_sem,length_map];rfl)|rfl) (by intro n;first|(simp (disch:=omega) only[go_sem];rfl)|rfl) ?_;intro n hn)|(refine st_pureE (by first|(simp (disch:=omega) only[go_sem,length_map];rfl)|rfl) rfl (kc) (by first|(simp only[go_sem,length_map];rfl)|rfl) (by intro n;first|(simp (disch:=omega) only[go_sem];rfl)|rfl) ?_;intro n hn)|refine st_gT rfl rfl rfl ?_|refine st_gF rfl rfl rfl ?_|(refine st_gS rfl rfl ?_ ?_ <;> intro hg <;> (try simp only[decide_eq_true_eq,decide_eq_false_iff_not,Bool.not_eq_true',Bool.not_eq_false'] at hg))|refine st_condT rfl ?_|refine st_condF rfl ?_|refine st_nil ?_|refine st_dnil ?_|refine st_tN ?_|refine st_seq ?_|refine st_skip ?_|refine st_ret ?_|refine st_tR ?_)
            all_goals try (exfalso;omega)
            simp (disch:=omega) only[AEnd,Tryd.results62,aresK,fin,go_sem,↓reduceIte,reduceEqDiff,reduceAdd,reduceLeDiff,if_yes,if_no,implies_true,true_and,and_true,List.reverse_cons,List.reverse_nil]
            rw [e1]
          | false =>
            have e1:searchR S 0 x (p,true)=(p,true):=by rw [e0];unfold winR;rw [decide_eq_false hlt,hb];simp
            rw [hb] at kc
            repeat' (first|refine st_seq_reg rfl (by first|(simp only[go_sem,length_map];rfl)|rfl) (by first|(simp only[go_sem,length_map];rfl)|rfl) ?_|refine st_seq_draw rfl (by first|(simp only[go_sem,length_map];rfl)|rfl) (by first|(simp only[go_sem,length_map];rfl)|rfl) ?_|refine st_op ?_|refine st_det rfl (by simp (disch:=omega) only[go_sem,wr_i64,if_yes,if_no,↓reduceIte,reduceAdd,reduceMul,reduceEqDiff,Nat.reduceBEq,reduceLeDiff,length_map];rfl) ?_|refine st_dop rfl ?_|(refine st_pureE (by first|(simp (disch:=omega) only[go_sem,length_map];rfl)|rfl) rfl (ka) (by first|(simp only[go_sem,length_map];rfl)|rfl) (by intro n;first|(simp (disch:=omega) only[go_sem];rfl)|rfl) ?_;intro n hn)|(refine st_pureE (by first|(simp (disch:=omega) only[go_sem,length_map];rfl)|rfl) rfl (kb) (by first|(simp only[go_sem,length_map];rfl)|rfl) (by intro n;first|(simp (disch:=omega) only[go_sem];rfl)|rfl) ?_;intro n hn)|(refine st_pureE (by first|(simp (disch:=omega) only[go_sem,length_map];rfl)|rfl) rfl (kc) (by first|(simp only[go_sem,length_map];rfl)|rfl) (by intro n;first|(simp (disch:=omega) only[go_sem];rfl)|rfl) ?_;intro n hn)|refine st_gT rfl rfl rfl ?_|refine st_gF rfl rfl rfl ?_|(refine st_gS rfl rfl ?_ ?_ <;> intro hg <;> (try simp only[decide_eq_true_eq,decide_eq_false_iff_not,Bool.not_eq_true',Bool.not_eq_false'] at hg))|refine st_condT rfl ?_|refine st_condF rfl ?_|refine st_nil ?_|refine st_dnil ?_|refine st_tN ?_|refine st_seq ?_|refine st_skip ?_|refine st_ret ?_|refine st_tR ?_)
            all_goals try (exfalso;omega)
            simp (disch:=omega) only[AEnd,Tryd.results62,aresK,fin,go_sem,↓reduceIte,reduceEqDiff,reduceAdd,reduceLeDiff,if_yes,if_no,implies_true,true_and,and_true,List.reverse_cons,List.reverse_nil]
            rw [e1]
        · have e1:searchR S 0 x (p,true)=(p,true):=by rw [e0];unfold winR;rw [decide_eq_false hlt,decide_eq_false heq];simp
          repeat' (first|refine st_seq_reg rfl (by first|(simp only[go_sem,length_map];rfl)|rfl) (by first|(simp only[go_sem,length_map];rfl)|rfl) ?_|refine st_seq_draw rfl (by first|(simp only[go_sem,length_map];rfl)|rfl) (by first|(simp only[go_sem,length_map];rfl)|rfl) ?_|refine st_op ?_|refine st_det rfl (by simp (disch:=omega) only[go_sem,wr_i64,if_yes,if_no,↓reduceIte,reduceAdd,reduceMul,reduceEqDiff,Nat.reduceBEq,reduceLeDiff,length_map];rfl) ?_|refine st_dop rfl ?_|(refine st_pureE (by first|(simp (disch:=omega) only[go_sem,length_map];rfl)|rfl) rfl (ka) (by first|(simp only[go_sem,length_map];rfl)|rfl) (by intro n;first|(simp (disch:=omega) only[go_sem];rfl)|rfl) ?_;intro n hn)|(refine st_pureE (by first|(simp (disch:=omega) only[go_sem,length_map];rfl)|rfl) rfl (kb) (by first|(simp only[go_sem,length_map];rfl)|rfl) (by intro n;first|(simp (disch:=omega) only[go_sem];rfl)|rfl) ?_;intro n hn)|refine st_gT rfl rfl rfl ?_|refine st_gF rfl rfl rfl ?_|(refine st_gS rfl rfl ?_ ?_ <;> intro hg <;> (try simp only[decide_eq_true_eq,decide_eq_false_iff_not,Bool.not_eq_true',Bool.not_eq_false'] at hg))|refine st_condT rfl ?_|refine st_condF rfl ?_|refine st_nil ?_|refine st_dnil ?_|refine st_tN ?_|refine st_seq ?_|refine st_skip ?_|refine st_ret ?_|refine st_tR ?_)
          all_goals try (exfalso;omega)
          simp (disch:=omega) only[AEnd,Tryd.results62,aresK,fin,go_sem,↓reduceIte,reduceEqDiff,reduceAdd,reduceLeDiff,if_yes,if_no,implies_true,true_and,and_true,List.reverse_cons,List.reverse_nil]
          rw [e1]
  | succ f ih =>
    intro x p s hf hX hp h
    have hmany:((S.js.length - (f+1):Nat):Int)+1=((S.js.length - f:Nat):Int):=by omega
    refine ACalls.forget (ACalls.of tab mixed Tryd.call62 Tryd.func62 rfl (fi:=⟨98,[],[5,6],none,[(2,[0,0,2,7,0,0,63,127,255],[(0,true),(1,false),(2,true),(4,true),(5,false),(3,false),(6,false),(7,false),(8,false)]),(12,[0,1,0,7,15,0,32,0,224,480,992,2047],[(0,false),(1,true),(2,false),(3,false),(4,true),(5,false),(6,true),(7,false),(8,false),(9,false),(10,true),(11,false)]),(13,[0,0,0,0,0,30,0,64,0,0,1023,2047,4095,4095,8191,32767],[(0,true),(1,true),(2,true),(3,false),(4,false),(6,false),(7,false),(8,false),(9,false),(5,false),(10,false),(11,false),(12,false),(13,false),(14,false),(15,false)])]⟩) rfl rfl (Nat.le_of_ble_eq_true rfl) (by decide) ?_)
    unfold startA
    try simp only[go_sem]
    repeat' (first|refine st_seq_reg rfl (by first|(simp only[go_sem,length_map];rfl)|rfl) (by first|(simp only[go_sem,length_map];rfl)|rfl) ?_|refine st_seq_draw rfl (by first|(simp only[go_sem,length_map];rfl)|rfl) (by first|(simp only[go_sem,length_map];rfl)|rfl) ?_|refine st_op ?_|refine st_det rfl (by simp (disch:=omega) only[go_sem,wr_i64,if_yes,if_no,↓reduceIte,reduceAdd,reduceMul,reduceEqDiff,Nat.reduceBEq,reduceLeDiff,length_map];rfl) ?_|refine st_dop rfl ?_|(refine st_condS rfl ?_ ?_ <;> intro hg <;> (try simp only[decide_eq_true_eq,decide_eq_false_iff_not,Bool.not_eq_true',Bool.not_eq_false'] at hg))|refine st_nil ?_|refine st_tN ?_|refine st_seq ?_|refine st_block ?_|refine st_skip ?_)
    all_goals try (exfalso;omega)
    refine st_loopC (α:=Nat) tab mixed [] [] (by repeat (first|exact trivial|refine ⟨rfl,?_⟩)) [] [] (by repeat (first|exact trivial|refine ⟨rfl,?_⟩)) (fun j=>[(14,.int .i64 (j:Nat)),(3,.lst 2 ((stR S f x (p,s) j 0).1.map Sf.row)),(4,.bool (stR S f x (p,s) j 0).2)]) [(2,_),(5,_),(6,_)] (fun _=>[]) [] (fun j=>j≤S.js.length) (fun j=>S.js.length - j) (by decide) 0 (Nat.zero_le _) (by (try simp only[go_sem]);repeat' (first|exact trivial|refine And.intro ?_ ?_|rfl|(simp (disch:=omega) only[go_sem,if_yes,if_no,↓reduceIte,reduceAdd,reduceMul,reduceEqDiff,Nat.reduceBEq,reduceLeDiff];rfl)|(simp (disch:=omega) only[go_sem,if_yes,if_no,↓reduceIte,reduceAdd,reduceMul,reduceEqDiff,Nat.reduceBEq,reduceLeDiff]))) (by (try simp only[go_sem]);repeat' (first|exact trivial|refine And.intro ?_ ?_|rfl|(simp (disch:=omega) only[go_sem,if_yes,if_no,↓reduceIte,reduceAdd,reduceMul,reduceEqDiff,Nat.reduceBEq,reduceLeDiff];rfl)|(simp (disch:=omega) only[go_sem,if_yes,if_no,↓reduceIte,reduceAdd,reduceMul,reduceEqDiff,Nat.reduceBEq,reduceLeDiff]))) (by first|(simp only[go_sem];rfl)|rfl) (by intro n;simp only[go_sem];rfl) ?_
    rintro j c hj hc
    simp only[go_sem]
    by_cases hjl:j < S.js.length
    case neg =>
      have ej:j=S.js.length:=by omega
      subst ej
      have e1:=stR_end S f x (p,s)
      repeat' (first|refine st_seq_reg rfl (by first|(simp only[go_sem,length_map];rfl)|rfl) (by first|(simp only[go_sem,length_map];rfl)|rfl) ?_|refine st_op ?_|refine st_det rfl (by simp (disch:=omega) only[go_sem,wr_i64,if_yes,if_no,↓reduceIte,reduceAdd,reduceMul,reduceEqDiff,Nat.reduceBEq,reduceLeDiff,length_map];rfl) ?_|(refine st_condS rfl ?_ ?_ <;> intro hg <;> (try simp only[decide_eq_true_eq,decide_eq_false_iff_not,Bool.not_eq_true',Bool.not_eq_false'] at hg))|refine st_nil ?_|refine st_tN ?_|refine st_seq ?_|refine st_block ?_|refine st_skip ?_|refine st_exit ?_|refine st_ret ?_|refine st_tE ?_|refine st_bH ?_)
      all_goals try (exfalso;omega)
      simp (disch:=omega) only[AEnd,Tryd.results62,aresK,fin,go_sem,↓reduceIte,reduceEqDiff,reduceAdd,reduceLeDiff,if_yes,if_no,implies_true,true_and,and_true,List.reverse_cons,List.reverse_nil]
      rw [e1]
    repeat' (first|refine st_seq_reg rfl (by first|(simp only[go_sem,length_map];rfl)|rfl) (by first|(simp only[go_sem,length_map];rfl)|rfl) ?_|refine st_op ?_|refine st_det rfl (by simp (disch:=omega) only[go_sem,wr_i64,if_yes,if_no,↓reduceIte,reduceAdd,reduceMul,reduceEqDiff,Nat.reduceBEq,reduceLeDiff,length_map];rfl) ?_|(refine st_condS rfl ?_ ?_ <;> intro hg <;> (try simp only[decide_eq_true_eq,decide_eq_false_iff_not,Bool.not_eq_true',Bool.not_eq_false'] at hg))|refine st_nil ?_|refine st_tN ?_|refine st_seq ?_|refine st_block ?_|refine st_skip ?_|refine st_exit ?_|refine st_ret ?_|refine st_tE ?_|refine st_bH ?_)
    all_goals try (exfalso;omega)
    have k102:=c102 S x (f+1) j hX h7 hjl
    refine st_loopC (α:=Nat) tab mixed [] [] (by repeat (first|exact trivial|refine ⟨rfl,?_⟩)) [] [] (by repeat (first|exact trivial|refine ⟨rfl,?_⟩)) (fun w=>[(15,.int .i64 (w:Nat)),(3,.lst 2 ((stR S f x (p,s) j w).1.map Sf.row)),(4,.bool (stR S f x (p,s) j w).2)]) [(2,_),(5,_),(6,_),(14,_)] (fun _=>[]) [] (fun w=>w≤S.ws.length) (fun w=>S.ws.length - w) (by decide) 0 (Nat.zero_le _) (by (try simp only[go_sem]);repeat' (first|exact trivial|refine And.intro ?_ ?_|rfl|(simp (disch:=omega) only[go_sem,if_yes,if_no,↓reduceIte,reduceAdd,reduceMul,reduceEqDiff,Nat.reduceBEq,reduceLeDiff];rfl)|(simp (disch:=omega) only[go_sem,if_yes,if_no,↓reduceIte,reduceAdd,reduceMul,reduceEqDiff,Nat.reduceBEq,reduceLeDiff]))) (by (try simp only[go_sem]);repeat' (first|exact trivial|refine And.intro ?_ ?_|rfl|(simp (disch:=omega) only[go_sem,if_yes,if_no,↓reduceIte,reduceAdd,reduceMul,reduceEqDiff,Nat.reduceBEq,reduceLeDiff];rfl)|(simp (disch:=omega) only[go_sem,if_yes,if_no,↓reduceIte,reduceAdd,reduceMul,reduceEqDiff,Nat.reduceBEq,reduceLeDiff]))) (by first|(simp only[go_sem];rfl)|rfl) (by intro n;simp only[go_sem];rfl) ?_
    rintro w c2 hw hc2
    simp only[go_sem]
    by_cases hwl:w < S.ws.length
    case neg =>
      have ew:w=S.ws.length:=by omega
      subst ew
      have e1:=stR_row S f x (p,s) j
      repeat' (first|refine st_seq_reg rfl (by first|(simp only[go_sem,length_map];rfl)|rfl) (by first|(simp only[go_sem,length_map];rfl)|rfl) ?_|refine st_reg rfl (by first|(simp only[go_sem,length_map];rfl)|rfl) (by first|(simp only[go_sem,length_map];rfl)|rfl) ?_|refine st_op ?_|refine st_det rfl (by simp (disch:=omega) only[go_sem,wr_i64,if_yes,if_no,↓reduceIte,reduceAdd,reduceMul,reduceEqDiff,Nat.reduceBEq,reduceLeDiff,length_map];rfl) ?_|refine st_gT rfl rfl rfl ?_|refine st_gF rfl rfl rfl ?_|(refine st_gS rfl rfl ?_ ?_ <;> intro hg <;> (try simp only[decide_eq_true_eq,decide_eq_false_iff_not,Bool.not_eq_true',Bool.not_eq_false'] at hg))|refine st_condF rfl ?_|refine st_nil ?_|refine st_tN ?_|refine st_seq ?_|refine st_exit ?_|refine st_tE ?_|refine st_bN ?_|refine st_bH ?_)
      all_goals try (exfalso;omega)
      refine ⟨j+1,(by omega),by omega,(by (try (simp only[e1]));repeat' (first|exact trivial|refine And.intro ?_ ?_|rfl|(simp (disch:=omega) only[go_sem,if_yes,if_no,↓reduceIte,reduceAdd,reduceMul,reduceEqDiff,Nat.reduceBEq,reduceLeDiff];rfl)|(simp (disch:=omega) only[go_sem,if_yes,if_no,↓reduceIte,reduceAdd,reduceMul,reduceEqDiff,Nat.reduceBEq,reduceLeDiff]))),(by (try (simp only[e1]));repeat' (first|exact trivial|refine And.intro ?_ ?_|rfl|(simp (disch:=omega) only[go_sem,if_yes,if_no,↓reduceIte,reduceAdd,reduceMul,reduceEqDiff,Nat.reduceBEq,reduceLeDiff];rfl)|(simp (disch:=omega) only[go_sem,if_yes,if_no,↓reduceIte,reduceAdd,reduceMul,reduceEqDiff,Nat.reduceBEq,reduceLeDiff]))),rfl,(by first|exact HOld.of _ (by omega)|exact HOld.put _ _ _ (by omega))⟩
    cases hnx:nextR S.js x j with
    | false =>
      rw [hnx] at k102
      have e1:=stR_skip (f:=f) (st:=(p,s)) (w:=w) hnx
      repeat' (first|refine st_seq_reg rfl (by first|(simp only[go_sem,length_map];rfl)|rfl) (by first|(simp only[go_sem,length_map];rfl)|rfl) ?_|refine st_reg rfl (by first|(simp only[go_sem,length_map];rfl)|rfl) (by first|(simp only[go_sem,length_map];rfl)|rfl) ?_|refine st_op ?_|refine st_det rfl (by simp (disch:=omega) only[go_sem,wr_i64,if_yes,if_no,↓reduceIte,reduceAdd,reduceMul,reduceEqDiff,Nat.reduceBEq,reduceLeDiff,length_map];rfl) ?_|(refine st_pureE (by first|(simp (disch:=omega) only[go_sem,length_map];rfl)|rfl) rfl (k102) (by first|(simp only[go_sem,length_map];rfl)|rfl) (by intro n;first|(simp (disch:=omega) only[go_sem];rfl)|rfl) ?_;intro n hn)|refine st_gT rfl rfl rfl ?_|refine st_gF rfl rfl rfl ?_|(refine st_gS rfl rfl ?_ ?_ <;> intro hg <;> (try simp only[decide_eq_true_eq,decide_eq_false_iff_not,Bool.not_eq_true',Bool.not_eq_false'] at hg))|refine st_condF rfl ?_|refine st_nil ?_|refine st_tN ?_|refine st_seq ?_|refine st_exit ?_|refine st_tE ?_|refine st_bN ?_|refine st_bH ?_)
      all_goals try (exfalso;omega)
      refine ⟨j+1,(by omega),by omega,(by (try (simp only[e1]));repeat' (first|exact trivial|refine And.intro ?_ ?_|rfl|(simp (disch:=omega) only[go_sem,if_yes,if_no,↓reduceIte,reduceAdd,reduceMul,reduceEqDiff,Nat.reduceBEq,reduceLeDiff];rfl)|(simp (disch:=omega) only[go_sem,if_yes,if_no,↓reduceIte,reduceAdd,reduceMul,reduceEqDiff,Nat.reduceBEq,reduceLeDiff]))),(by (try (simp only[e1]));repeat' (first|exact trivial|refine And.intro ?_ ?_|rfl|(simp (disch:=omega) only[go_sem,if_yes,if_no,↓reduceIte,reduceAdd,reduceMul,reduceEqDiff,Nat.reduceBEq,reduceLeDiff];rfl)|(simp (disch:=omega) only[go_sem,if_yes,if_no,↓reduceIte,reduceAdd,reduceMul,reduceEqDiff,Nat.reduceBEq,reduceLeDiff]))),rfl,(by first|exact HOld.of _ (by omega)|exact HOld.put _ _ _ (by omega))⟩
    | true =>
      rw [hnx] at k102
      have k95:=c95 (wOf S.ws w) (jOf S.js j).s
      cases hcn:(wOf S.ws w).can (jOf S.js j).s with
      | false =>
        rw [hcn] at k95
        have hk:kidR S x j w=none:=by
          unfold kidR;rw [hnx,show (S.wk w).can (S.j j).s=false from hcn];rfl
        have e1:=stR_none (f:=f) (st:=(p,s)) hk
        repeat' (first|refine st_seq_reg rfl (by first|(simp only[go_sem,length_map];rfl)|rfl) (by first|(simp only[go_sem,length_map];rfl)|rfl) ?_|refine st_reg rfl (by first|(simp only[go_sem,length_map];rfl)|rfl) (by first|(simp only[go_sem,length_map];rfl)|rfl) ?_|refine st_seq_draw rfl (by first|(simp only[go_sem,length_map];rfl)|rfl) (by first|(simp only[go_sem,length_map];rfl)|rfl) ?_|refine st_op ?_|refine st_det rfl (by simp (disch:=omega) only[go_sem,wr_i64,if_yes,if_no,↓reduceIte,reduceAdd,reduceMul,reduceEqDiff,Nat.reduceBEq,reduceLeDiff,length_map];rfl) ?_|refine st_dop rfl ?_|(refine st_pureE (by first|(simp (disch:=omega) only[go_sem,length_map];rfl)|rfl) rfl (k102) (by first|(simp only[go_sem,length_map];rfl)|rfl) (by intro n;first|(simp (disch:=omega) only[go_sem];rfl)|rfl) ?_;intro n hn)|(refine st_pureE (by first|(simp (disch:=omega) only[go_sem,length_map];rfl)|rfl) rfl (k95) (by first|(simp only[go_sem,length_map];rfl)|rfl) (by intro n;first|(simp (disch:=omega) only[go_sem];rfl)|rfl) ?_;intro n hn)|refine st_gT rfl rfl rfl ?_|refine st_gF rfl rfl rfl ?_|(refine st_gS rfl rfl ?_ ?_ <;> intro hg <;> (try simp only[decide_eq_true_eq,decide_eq_false_iff_not,Bool.not_eq_true',Bool.not_eq_false'] at hg))|refine st_condT rfl ?_|refine st_condF rfl ?_|refine st_nil ?_|refine st_dnil ?_|refine st_tN ?_|refine st_seq ?_|refine st_block ?_|refine st_skip ?_|refine st_exit ?_|refine st_tE ?_|refine st_bN ?_|refine st_bH ?_)
        all_goals try (exfalso;omega)
        refine ⟨w+1,(by omega),by omega,(by (try (simp only[e1]));repeat' (first|exact trivial|refine And.intro ?_ ?_|rfl|(simp (disch:=omega) only[go_sem,if_yes,if_no,↓reduceIte,reduceAdd,reduceMul,reduceEqDiff,Nat.reduceBEq,reduceLeDiff];rfl)|(simp (disch:=omega) only[go_sem,if_yes,if_no,↓reduceIte,reduceAdd,reduceMul,reduceEqDiff,Nat.reduceBEq,reduceLeDiff]))),(by (try (simp only[e1]));repeat' (first|exact trivial|refine And.intro ?_ ?_|rfl|(simp (disch:=omega) only[go_sem,if_yes,if_no,↓reduceIte,reduceAdd,reduceMul,reduceEqDiff,Nat.reduceBEq,reduceLeDiff];rfl)|(simp (disch:=omega) only[go_sem,if_yes,if_no,↓reduceIte,reduceAdd,reduceMul,reduceEqDiff,Nat.reduceBEq,reduceLeDiff]))),rfl,(by first|exact HOld.of _ (by omega)|exact HOld.put _ _ _ (by omega))⟩
      | true =>
        rw [hcn] at k95
        have hk:kidR S x j w=some (withR S.js x j w):=by
          unfold kidR;rw [hnx,show (S.wk w).can (S.j j).s=true from hcn];rfl
        have e1:=stR_some (f:=f) (st:=(p,s)) hk
        have k103:=c103 S hS x (f+1) j w hX hjl hwl
        have hY:=hX.next hS (by omega) hjl hwl
        have hP:=stR_pbd hS (by omega) hX (show PBd S (p,s).1 from hp) hjl (Nat.le_of_lt hwl)
        have kih:=ih (withR S.js x j w) (stR S f x (p,s) j w).1 (stR S f x (p,s) j w).2 (by omega) hY hP
        generalize withR S.js x j w=y at kih k103 e1
        repeat' (first|refine st_seq_reg rfl (by first|(simp only[go_sem,length_map,hmany];rfl)|rfl) (by first|(simp only[go_sem,length_map,hmany];rfl)|rfl) ?_|refine st_reg rfl (by first|(simp only[go_sem,length_map,hmany];rfl)|rfl) (by first|(simp only[go_sem,length_map,hmany];rfl)|rfl) ?_|refine st_seq_draw rfl (by first|(simp only[go_sem,length_map,hmany];rfl)|rfl) (by first|(simp only[go_sem,length_map,hmany];rfl)|rfl) ?_|refine st_draw rfl (by first|(simp only[go_sem,length_map,hmany];rfl)|rfl) (by first|(simp only[go_sem,length_map,hmany];rfl)|rfl) ?_|refine st_op ?_|refine st_det rfl (by simp (disch:=omega) only[go_sem,wr_i64,if_yes,if_no,↓reduceIte,reduceAdd,reduceMul,reduceEqDiff,Nat.reduceBEq,reduceLeDiff,length_map,hmany];rfl) ?_|refine st_dop rfl ?_|(refine st_pureE (by first|(simp (disch:=omega) only[go_sem,length_map,hmany];rfl)|rfl) rfl (k102) (by first|(simp only[go_sem,length_map,hmany];rfl)|rfl) (by intro n;first|(simp (disch:=omega) only[go_sem];rfl)|rfl) ?_;intro n hn)|(refine st_pureE (by first|(simp (disch:=omega) only[go_sem,length_map,hmany];rfl)|rfl) rfl (k95) (by first|(simp only[go_sem,length_map,hmany];rfl)|rfl) (by intro n;first|(simp (disch:=omega) only[go_sem];rfl)|rfl) ?_;intro n hn)|(refine st_pureE (by first|(simp (disch:=omega) only[go_sem,length_map,hmany];rfl)|rfl) rfl (k103) (by first|(simp only[go_sem,length_map,hmany];rfl)|rfl) (by intro n;first|(simp (disch:=omega) only[go_sem];rfl)|rfl) ?_;intro n hn)|(refine st_pureE (by first|(simp (disch:=omega) only[go_sem,length_map,hmany];rfl)|rfl) rfl (kih) (by first|(simp only[go_sem,length_map,hmany];rfl)|rfl) (by intro n;first|(simp (disch:=omega) only[go_sem];rfl)|rfl) ?_;intro n hn)|refine st_gT rfl rfl rfl ?_|refine st_gF rfl rfl rfl ?_|(refine st_gS rfl rfl ?_ ?_ <;> intro hg <;> (try simp only[decide_eq_true_eq,decide_eq_false_iff_not,Bool.not_eq_true',Bool.not_eq_false'] at hg))|refine st_condT rfl ?_|refine st_condF rfl ?_|refine st_nil ?_|refine st_dnil ?_|refine st_tN ?_|refine st_seq ?_|refine st_block ?_|refine st_skip ?_|refine st_exit ?_|refine st_tE ?_|refine st_bN ?_|refine st_bH ?_)
        all_goals try (exfalso;omega)
        refine ⟨w+1,(by omega),by omega,(by (try (simp only[e1]));repeat' (first|exact trivial|refine And.intro ?_ ?_|rfl|(simp (disch:=omega) only[go_sem,if_yes,if_no,↓reduceIte,reduceAdd,reduceMul,reduceEqDiff,Nat.reduceBEq,reduceLeDiff];rfl)|(simp (disch:=omega) only[go_sem,if_yes,if_no,↓reduceIte,reduceAdd,reduceMul,reduceEqDiff,Nat.reduceBEq,reduceLeDiff]))),(by (try (simp only[e1]));repeat' (first|exact trivial|refine And.intro ?_ ?_|rfl|(simp (disch:=omega) only[go_sem,if_yes,if_no,↓reduceIte,reduceAdd,reduceMul,reduceEqDiff,Nat.reduceBEq,reduceLeDiff];rfl)|(simp (disch:=omega) only[go_sem,if_yes,if_no,↓reduceIte,reduceAdd,reduceMul,reduceEqDiff,Nat.reduceBEq,reduceLeDiff]))),rfl,(by first|exact HOld.of _ (by omega)|exact HOld.put _ _ _ (by omega))⟩
end Go.Proofs.YtaijkalhkgjakaaDoor
