/- Contracts of functions that the claim reaches: what each call gives, told in our own logic. Conditions: those of each theorem. -/
import Derived.Test.YtaijkalhkgjakaaDoorG58
set_option linter.all false
set_option linter.unusedSimpArgs false
set_option linter.unusedVariables false
namespace Go.Proofs.YtaijkalhkgjakaaDoor
open Go.Av
attribute [local irreducible] thenA blockA awp awpOps awpD awp1
set_option maxHeartbeats 8000000
set_option maxRecDepth 20000
theorem c74t (f:Fl) (ks ts:List Int) (hf:FlOk f) (hk:KsOk ks) (hl:ks.length≤f.loads.length):Pure Tryd.prog 74 [f.av,tr ks ts] (fun v=>v=.tup [.int .i64 (frT f ks),.int .i64 (reT f ks)]):=c74 f ks ts hf hk hl
theorem c78t (f:Fl) (ks ts:List Int) (hf:FlOk f) (hk:KsOk ks):Pure Tryd.prog 78 [f.av,tr ks ts] (fun v=>v=.int .i64 (toT f ks)):=c78 f ks ts hf hk
theorem c77t (f:Fl) (ks ts:List Int) (hl:ts.length≤1000):Pure Tryd.prog 77 [f.av,tr ks ts] (fun v=>v=.int .i64 (taT f ts)):=c77 f ks ts hl
theorem c30 (f:Fl) (x:Hu) (ks ts:List Int) (hf:FlOk f) (hk:KsOk ks) (hl:ks.length≤f.loads.length) (ht:ts.length≤1000) (hx:HuOk x):Pure Tryd.prog 30 [f.av,x.av,tr ks ts] (fun v=>v=.bool (decide (goesT f x ks ts))):=by
  have h1:=hf.len;have h2:=hf.axles;have h3:=hf.wid;have h4:=hf.turn
  have ha:=hx.a;have hb:=hx.b;have hc:=hx.bend
  have s1:=mul_bd hx.b (A:=3000) (x:=f.rear - f.front) (by omega)
  have e2:uI (2 * x.a+f.wid) 2=(2 * x.a+f.wid+1) / 2:=upTwo
  intro h
  refine ACalls.forget (ACalls.of tab mixed Tryd.call30 Tryd.func30 rfl (fi:=⟨68,[],[3,4,5],none,[(3,[0,0,0,4,0,16,48,0,128,496,1008,2044,4095,8191],[(0,true),(1,true),(2,false),(3,true),(4,false),(5,true),(6,false),(7,false),(8,true),(9,false),(10,false),(11,false),(12,false),(13,false)]),(5,[0,0,3,0,8,31,63],[(0,true),(1,true),(3,false),(4,true),(2,false),(5,false),(6,false)]),(8,[0,0,3,0,8,31,63,127,127,383,127,1919,4095,8191,16383,32767,32767,98303,32767,491519,1048575,2097151,4194303],[(0,true),(1,true),(3,false),(4,true),(2,false),(5,false),(6,false),(7,false),(8,false),(9,true),(10,false),(11,false),(12,false),(13,false),(14,false),(15,false),(16,false),(17,true),(18,false),(19,false),(20,false),(21,false),(22,false)])]⟩) rfl rfl (Nat.le_of_ble_eq_true rfl) (by decide) ?_)
  unfold startA
  simp only[go_sem]
  repeat' (first|refine st_seq_reg rfl (by first|(simp only[go_sem];rfl)|rfl) (by first|(simp only[go_sem];rfl)|rfl) ?_|refine st_seq_draw rfl (by first|(simp only[go_sem];rfl)|rfl) (by first|(simp only[go_sem];rfl)|rfl) ?_|refine st_op ?_|refine st_det rfl (by simp (disch:=omega) only[go_sem,wr_i64,if_yes,if_no,↓reduceIte,Nat.reduceAdd,Nat.reduceMul,Nat.reduceEqDiff,Nat.reduceBEq,Nat.reduceLeDiff];rfl) ?_|refine st_dop rfl ?_|(refine st_pureE (by first|(simp (disch:=omega) only[go_sem];rfl)|rfl) rfl (c76 (2 * x.a+f.wid) 2 (by omega) (by omega)) (by first|(simp only[go_sem];rfl)|rfl) (by intro n;first|(simp (disch:=omega) only[go_sem];rfl)|rfl) ?_;intro n hn)|(refine st_pureE (by first|(simp (disch:=omega) only[go_sem];rfl)|rfl) rfl (c75 f x (max f.turn (uI (2 * x.a+f.wid) 2)) hf (by omega) (by omega) (by omega)) (by first|(simp only[go_sem];rfl)|rfl) (by intro n;first|(simp (disch:=omega) only[go_sem];rfl)|rfl) ?_;intro n hn)|(refine st_pureE (by first|(simp (disch:=omega) only[go_sem];rfl)|rfl) rfl (c77t f ks ts ht) (by first|(simp only[go_sem];rfl)|rfl) (by intro n;first|(simp (disch:=omega) only[go_sem];rfl)|rfl) ?_;intro n hn)|(refine st_pureE (by first|(simp (disch:=omega) only[go_sem];rfl)|rfl) rfl (c74t f ks ts hf hk hl) (by first|(simp only[go_sem];rfl)|rfl) (by intro n;first|(simp (disch:=omega) only[go_sem];rfl)|rfl) ?_;intro n hn)|(refine st_pureE (by first|(simp (disch:=omega) only[go_sem];rfl)|rfl) rfl (c78t f ks ts hf hk) (by first|(simp only[go_sem];rfl)|rfl) (by intro n;first|(simp (disch:=omega) only[go_sem];rfl)|rfl) ?_;intro n hn)|refine st_dgT rfl rfl rfl rfl ?_|refine st_dgF rfl rfl rfl ?_|(refine st_dgS rfl rfl ?_ ?_ <;> intro hg <;> (try simp only[decide_eq_true_eq,decide_eq_false_iff_not,Bool.not_eq_true',Bool.not_eq_false'] at hg))|(refine st_condS rfl ?_ ?_ <;> intro hg <;> (try simp only[decide_eq_true_eq,decide_eq_false_iff_not,Bool.not_eq_true',Bool.not_eq_false'] at hg))|refine st_nil ?_|refine st_dnil ?_|refine st_tN ?_|refine st_seq ?_|refine st_block ?_|refine st_skip ?_|refine st_ret ?_|refine st_tR ?_|refine st_bN ?_|refine st_bR ?_)
  all_goals
    simp (disch:=omega) only[AEnd,Tryd.results30,aresK,fin,go_sem,↓reduceIte,Nat.reduceEqDiff,Nat.reduceAdd,Nat.reduceLeDiff,if_yes,if_no,implies_true,true_and,and_true,List.reverse_cons,List.reverse_nil]
    all_goals simp [goesT, *]
theorem c29 (f:Fl) (ks ts:List Int) (hf:FlOk f) (hk:KsOk ks) (hl:ks.length≤f.loads.length):Pure Tryd.prog 29 [f.av,tr ks ts] (fun v=>v=.bool (decide (0≤frT f ks∧0≤reT f ks))):=by
  intro h
  refine ACalls.forget (ACalls.of tab mixed Tryd.call29 Tryd.func29 rfl (fi:=⟨19,[],[2,3],none,[]⟩) rfl rfl (Nat.le_of_ble_eq_true rfl) (by decide) ?_)
  unfold startA
  simp only[go_sem]
  repeat' (first|refine st_seq_reg rfl (by first|(simp only[go_sem];rfl)|rfl) (by first|(simp only[go_sem];rfl)|rfl) ?_|refine st_op ?_|refine st_det rfl (by simp (disch:=omega) only[go_sem,wr_i64,if_yes,if_no,↓reduceIte,Nat.reduceAdd,Nat.reduceMul,Nat.reduceEqDiff,Nat.reduceBEq,Nat.reduceLeDiff];rfl) ?_|(refine st_pureE (by first|(simp (disch:=omega) only[go_sem];rfl)|rfl) rfl (c74t f ks ts hf hk hl) (by first|(simp only[go_sem];rfl)|rfl) (by intro n;first|(simp (disch:=omega) only[go_sem];rfl)|rfl) ?_;intro n hn)|refine st_gT rfl rfl rfl ?_|refine st_gF rfl rfl rfl ?_|(refine st_gS rfl rfl ?_ ?_ <;> intro hg <;> (try simp only[decide_eq_true_eq,decide_eq_false_iff_not,Bool.not_eq_true',Bool.not_eq_false'] at hg))|refine st_nil ?_|refine st_ret ?_)
  all_goals
    simp (disch:=omega) only[AEnd,Tryd.results29,aresK,fin,go_sem,↓reduceIte,Nat.reduceEqDiff,Nat.reduceAdd,Nat.reduceLeDiff,if_yes,if_no,implies_true,true_and,and_true,List.reverse_cons,List.reverse_nil]
    try simp [*]
end Go.Proofs.YtaijkalhkgjakaaDoor
