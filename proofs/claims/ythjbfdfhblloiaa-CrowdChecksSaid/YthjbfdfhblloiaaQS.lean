/- Contracts of functions that the claim reaches: what each call gives, told in our own logic. Conditions: those of each theorem. -/
import Derived.Test.YthjbfdfhblloiaaBaseC
import Derived.Test.YthjbfdfhblloiaaBaseD
import Derived.Test.YthjbfdfhblloiaaQ22
import Derived.Test.YthjbfdfhblloiaaQ55
import Derived.Test.YthjbfdfhblloiaaQ73
import Derived.Test.YthjbfdfhblloiaaQ74
import Derived.Test.YthjbfdfhblloiaaQ75
import Derived.Test.YthjbfdfhblloiaaW11
import Derived.Test.YthjbfdfhblloiaaQ3
import Derived.Test.YthjbfdfhblloiaaQ11
open Nat (reduceAdd reduceMul reduceEqDiff reduceLeDiff)
open List (length_map)
set_option linter.all false
set_option linter.unusedSimpArgs false
set_option linter.unusedVariables false
namespace Go.Proofs.Ythjbfdfhblloiaa
open Go.Av
attribute [local irreducible] thenA blockA awp awpOps awpD awp1
set_option maxHeartbeats 8000000
set_option maxRecDepth 20000
def pvdA (t:Tw) (most:Int) (k:Nat) (s:List Int) (p:List Rn) (v:AV):Prop:=match pvd t most k s p with
  | some r=>v=.tup [.lst 4 (r.map Rn.row),.bool true]
  | none=>∃ q:List Rn,v=.tup [.lst 4 (q.map Rn.row),.bool false]
def W73 (t:Tw) (most:Int) (k:Nat) (s:List Int) (p:List Rn):Prop :=
  Pure Try.prog 73 [t.av,.int .i64 most,.lst 1 (s.map iv),.lst 4 (p.map Rn.row)] (pvdA t most k s p)
theorem pvdA_none {t:Tw} {most:Int} {k:Nat} {s:List Int} {p:List Rn} {b:Bool} (hb:b=false) (h:pvd t most k s p=none):pvdA t most k s p (.tup [.lst 4 [],.bool b]):=by
  unfold pvdA;rw [h,hb];exact ⟨[],rfl⟩
theorem tail_row (q:List Rn) (x:List AV):List.take (q.length+1 - Int.toNat 1) (List.drop (Int.toNat 1) (x :: q.map Rn.row))=q.map Rn.row:=by
  show List.take (q.length+1 - 1) (q.map Rn.row)=_
  exact List.take_of_length_le (by simp)
theorem w73_end (t:Tw) (most:Int) (k:Nat) (s:List Int):W73 t most (k+1) s []:=by
  have ht0:t.av=.agg t.cells:=rfl
  unfold W73
  refine Pure.give Try.call73 fun h hall=>?_
  rw [ht0]
  refine ACalls.of tab mixed Try.call73 Try.func73 rfl (fi:=⟨115,[10],[4],none,[(3,[0,1,3,0,8,0,39,127],[(0,false),(1,false),(2,true),(3,false),(4,false),(5,false),(6,false),(7,false)]),(10,[0,0,0,0,8,30,0,64,254,510,1022,0,2048,0,8192,30720,63488,131070,63,524287],[(0,false),(1,true),(2,false),(3,false),(4,true),(6,false),(7,true),(11,false),(12,true),(13,false),(14,true),(15,false),(16,true),(5,false),(8,false),(9,false),(10,true),(17,false),(18,false),(19,false)]),(14,[0,0,0,0,8,28,0,127,255,511,511,1023,4095],[(0,true),(1,false),(2,false),(3,false),(4,true),(6,false),(5,false),(7,false),(8,false),(9,false),(10,false),(11,false),(12,false)]),(17,[0,0,0,0,8,28,0,127,255,255,1023,2047],[(0,true),(1,false),(2,false),(3,false),(4,true),(6,false),(5,false),(7,false),(8,false),(9,false),(10,false),(11,false)])]⟩) rfl rfl (Nat.le_of_ble_eq_true rfl) (by decide) ?_
  unfold startA
  unfold Tw.cells
  repeat' (first|refine st_seq_reg rfl (by first|(simp only[go_sem,length_map,List.map_nil,List.length_nil];rfl)|rfl) (by first|(simp only[go_sem,length_map,List.map_nil,List.length_nil];rfl)|rfl) ?_|refine st_op ?_|refine st_det rfl (by simp (disch:=omega) only[go_sem,wr_i64,if_yes,if_no,↓reduceIte,reduceAdd,reduceMul,reduceEqDiff,Nat.reduceBEq,reduceLeDiff,length_map,List.map_nil,List.length_nil];rfl) ?_|refine st_condT rfl ?_|refine st_nil ?_|refine st_seq ?_|refine st_ret ?_|refine st_tR ?_)
  all_goals try (exfalso;omega)
  simp (disch:=omega) only[AEnd,Try.results73,aresK,fin,go_sem,↓reduceIte,reduceEqDiff,reduceAdd,reduceLeDiff,if_yes,if_no,implies_true,true_and,and_true,List.reverse_cons,List.reverse_nil]
  exact .inl ⟨_,le_nilb 4 false,pvdA_none rfl rfl⟩
theorem w73_many (t:Tw) (most:Int) (k:Nat) (s:List Int) (r:Rn) (q:List Rn) (hT:TwOk t) (hp:(r :: q).length≤1000000) (hsl:s.length=t.sts.length) (h3:r=⟨3,0,0,0⟩):W73 t most (k+1) s (r :: q):=by
  have hsn:=hT.sn
  have k97:=c97 s (by omega)
  have ht0:t.av=.agg t.cells:=rfl
  rw [List.length_cons] at hp
  have hP:pvd t most (k+1) s (r :: q)=if most < shN s then some q else none:=by
    show (if r=⟨3,0,0,0⟩ then _ else _)=_;rw [if_pos h3]
  have d3:decide ([(IntKind.i64,r.kind),(.i64,r.st),(.i64,r.sq),(.i64,r.step)]=[(IntKind.i64,(3:Int)),(.i64,0),(.i64,0),(.i64,0)])=true:=decide_eq_true ((rn_eq3 r).2 h3)
  unfold W73
  refine Pure.give Try.call73 fun h hall=>?_
  rw [ht0]
  refine ACalls.of tab mixed Try.call73 Try.func73 rfl (fi:=⟨115,[10],[4],none,[(3,[0,1,3,0,8,0,39,127],[(0,false),(1,false),(2,true),(3,false),(4,false),(5,false),(6,false),(7,false)]),(10,[0,0,0,0,8,30,0,64,254,510,1022,0,2048,0,8192,30720,63488,131070,63,524287],[(0,false),(1,true),(2,false),(3,false),(4,true),(6,false),(7,true),(11,false),(12,true),(13,false),(14,true),(15,false),(16,true),(5,false),(8,false),(9,false),(10,true),(17,false),(18,false),(19,false)]),(14,[0,0,0,0,8,28,0,127,255,511,511,1023,4095],[(0,true),(1,false),(2,false),(3,false),(4,true),(6,false),(5,false),(7,false),(8,false),(9,false),(10,false),(11,false),(12,false)]),(17,[0,0,0,0,8,28,0,127,255,255,1023,2047],[(0,true),(1,false),(2,false),(3,false),(4,true),(6,false),(5,false),(7,false),(8,false),(9,false),(10,false),(11,false)])]⟩) rfl rfl (Nat.le_of_ble_eq_true rfl) (by decide) ?_
  unfold startA
  unfold Tw.cells
  repeat' (first|refine st_seq_reg rfl (by first|(simp only[go_sem,length_map,List.map_cons,List.length_cons,List.getD_cons_zero,Int.toNat_zero,d3,tail_row];rfl)|rfl) (by first|(simp only[go_sem,length_map,List.map_cons,List.length_cons,List.getD_cons_zero,Int.toNat_zero,d3,tail_row];rfl)|rfl) ?_|refine st_seq_draw rfl (by first|(simp only[go_sem,length_map,List.map_cons,List.length_cons,List.getD_cons_zero,Int.toNat_zero,d3,tail_row];rfl)|rfl) (by first|(simp only[go_sem,length_map,List.map_cons,List.length_cons,List.getD_cons_zero,Int.toNat_zero,d3,tail_row];rfl)|rfl) ?_|refine st_op ?_|refine st_det rfl (by simp (disch:=omega) only[go_sem,wr_i64,if_yes,if_no,↓reduceIte,reduceAdd,reduceMul,reduceEqDiff,Nat.reduceBEq,reduceLeDiff,length_map,List.map_cons,List.length_cons,List.getD_cons_zero,Int.toNat_zero,d3,tail_row];rfl) ?_|refine st_dop rfl ?_|refine st_loc rfl (by simp (disch:=omega) only[go_sem,wr_i64,if_yes,if_no,↓reduceIte,reduceAdd,reduceMul,reduceEqDiff,Nat.reduceBEq,reduceLeDiff,length_map,List.map_cons,List.length_cons,List.getD_cons_zero,Int.toNat_zero,d3,tail_row];rfl) ?_|refine st_store (by simp (disch:=omega) only[go_sem,wr_i64,if_yes,if_no,↓reduceIte,reduceAdd,reduceMul,reduceEqDiff,Nat.reduceBEq,reduceLeDiff,length_map,List.map_cons,List.length_cons,List.getD_cons_zero,Int.toNat_zero,d3,tail_row];rfl) ?_|(refine st_pureE (by first|(simp (disch:=omega) only[go_sem,length_map,List.map_cons,List.length_cons,List.getD_cons_zero,Int.toNat_zero,d3,tail_row];rfl)|rfl) rfl (k97) (by first|(simp only[go_sem,length_map,List.map_cons,List.length_cons,List.getD_cons_zero,Int.toNat_zero,d3,tail_row];rfl)|rfl) (by intro n;first|(simp (disch:=omega) only[go_sem];rfl)|rfl) ?_;intro n hn)|refine st_condT rfl ?_|refine st_condF rfl ?_|refine st_nil ?_|refine st_dnil ?_|refine st_tN ?_|refine st_seq ?_|refine st_block ?_|refine st_skip ?_|refine st_ret ?_|refine st_tR ?_|refine st_bR ?_)
  all_goals try (exfalso;omega)
  simp (disch:=omega) only[AEnd,Try.results73,aresK,fin,go_sem,↓reduceIte,reduceEqDiff,reduceAdd,reduceLeDiff,if_yes,if_no,implies_true,true_and,and_true,List.reverse_cons,List.reverse_nil]
  refine .inl ⟨_,VLe.refl _,?_⟩
  unfold pvdA
  rw [hP]
  by_cases hm:most < shN s
  · rw [if_pos hm,decide_eq_true hm]
  · rw [if_neg hm,decide_eq_false hm];exact ⟨q,rfl⟩
theorem w73_none (t:Tw) (most:Int) (k:Nat) (s:List Int) (r:Rn) (q:List Rn) (hp:(r :: q).length≤1000000) (h3:¬ r=⟨3,0,0,0⟩) (h2:¬ (r.kind=2∧r.st=0)) (h1:¬ (r.kind=1∧r.sq=0∧r.step=0)):W73 t most (k+1) s (r :: q):=by
  have ht0:t.av=.agg t.cells:=rfl
  rw [List.length_cons] at hp
  have hP:pvd t most (k+1) s (r :: q)=none:=by
    show (if r=⟨3,0,0,0⟩ then _ else if _ then _ else if _ then _ else _)=_;rw [if_neg h3,if_neg h2,if_neg h1]
  have d3:decide ([(IntKind.i64,r.kind),(.i64,r.st),(.i64,r.sq),(.i64,r.step)]=[(IntKind.i64,(3:Int)),(.i64,0),(.i64,0),(.i64,0)])=false:=decide_eq_false (fun e=>h3 ((rn_eq3 r).1 e))
  have d2:decide ([(IntKind.i64,r.kind),(.i64,r.st),(.i64,r.sq),(.i64,r.step)]=[(IntKind.i64,(2:Int)),(.i64,0),(.i64,r.sq),(.i64,r.step)])=false:=decide_eq_false (fun e=>h2 ((rn_eq2 r).1 e))
  have d1:decide ([(IntKind.i64,r.kind),(.i64,r.st),(.i64,r.sq),(.i64,r.step)]=[(IntKind.i64,(1:Int)),(.i64,r.st),(.i64,0),(.i64,0)])=false:=decide_eq_false (fun e=>h1 ((rn_eq1 r).1 e))
  unfold W73
  refine Pure.give Try.call73 fun h hall=>?_
  rw [ht0]
  refine ACalls.of tab mixed Try.call73 Try.func73 rfl (fi:=⟨115,[10],[4],none,[(3,[0,1,3,0,8,0,39,127],[(0,false),(1,false),(2,true),(3,false),(4,false),(5,false),(6,false),(7,false)]),(10,[0,0,0,0,8,30,0,64,254,510,1022,0,2048,0,8192,30720,63488,131070,63,524287],[(0,false),(1,true),(2,false),(3,false),(4,true),(6,false),(7,true),(11,false),(12,true),(13,false),(14,true),(15,false),(16,true),(5,false),(8,false),(9,false),(10,true),(17,false),(18,false),(19,false)]),(14,[0,0,0,0,8,28,0,127,255,511,511,1023,4095],[(0,true),(1,false),(2,false),(3,false),(4,true),(6,false),(5,false),(7,false),(8,false),(9,false),(10,false),(11,false),(12,false)]),(17,[0,0,0,0,8,28,0,127,255,255,1023,2047],[(0,true),(1,false),(2,false),(3,false),(4,true),(6,false),(5,false),(7,false),(8,false),(9,false),(10,false),(11,false)])]⟩) rfl rfl (Nat.le_of_ble_eq_true rfl) (by decide) ?_
  unfold startA
  unfold Tw.cells
  repeat' (first|refine st_seq_reg rfl (by first|(simp only[go_sem,length_map,List.map_cons,List.length_cons,List.getD_cons_zero,Int.toNat_zero,d3,d2,d1,tail_row];rfl)|rfl) (by first|(simp only[go_sem,length_map,List.map_cons,List.length_cons,List.getD_cons_zero,Int.toNat_zero,d3,d2,d1,tail_row];rfl)|rfl) ?_|refine st_seq_draw rfl (by first|(simp only[go_sem,length_map,List.map_cons,List.length_cons,List.getD_cons_zero,Int.toNat_zero,d3,d2,d1,tail_row];rfl)|rfl) (by first|(simp only[go_sem,length_map,List.map_cons,List.length_cons,List.getD_cons_zero,Int.toNat_zero,d3,d2,d1,tail_row];rfl)|rfl) ?_|refine st_op ?_|refine st_det rfl (by simp (disch:=omega) only[go_sem,wr_i64,if_yes,if_no,↓reduceIte,reduceAdd,reduceMul,reduceEqDiff,Nat.reduceBEq,reduceLeDiff,length_map,List.map_cons,List.length_cons,List.getD_cons_zero,Int.toNat_zero,d3,d2,d1,tail_row];rfl) ?_|refine st_dop rfl ?_|refine st_loc rfl (by simp (disch:=omega) only[go_sem,wr_i64,if_yes,if_no,↓reduceIte,reduceAdd,reduceMul,reduceEqDiff,Nat.reduceBEq,reduceLeDiff,length_map,List.map_cons,List.length_cons,List.getD_cons_zero,Int.toNat_zero,d3,d2,d1,tail_row];rfl) ?_|refine st_store (by simp (disch:=omega) only[go_sem,wr_i64,if_yes,if_no,↓reduceIte,reduceAdd,reduceMul,reduceEqDiff,Nat.reduceBEq,reduceLeDiff,length_map,List.map_cons,List.length_cons,List.getD_cons_zero,Int.toNat_zero,d3,d2,d1,tail_row];rfl) ?_|refine st_condF rfl ?_|refine st_nil ?_|refine st_dnil ?_|refine st_tN ?_|refine st_seq ?_|refine st_block ?_|refine st_skip ?_|refine st_ret ?_|refine st_bN ?_)
  all_goals try (exfalso;omega)
  simp (disch:=omega) only[AEnd,Try.results73,aresK,fin,go_sem,↓reduceIte,reduceEqDiff,reduceAdd,reduceLeDiff,if_yes,if_no,implies_true,true_and,and_true,List.reverse_cons,List.reverse_nil]
  exact .inl ⟨_,le_nilb 4 false,pvdA_none rfl hP⟩
theorem w73_full (t:Tw) (most:Int) (k:Nat) (s:List Int) (r:Rn) (q:List Rn) (hT:TwOk t) (hp:(r :: q).length≤1000000) (hsl:s.length=t.sts.length) (h3:¬ r=⟨3,0,0,0⟩) (h2:r.kind=2∧r.st=0):W73 t most (k+1) s (r :: q):=by
  have hsn:=hT.sn
  have hst:=hT.steps
  have hrn:=hT.rn
  have ht0:t.av=.agg t.cells:=rfl
  rw [List.length_cons] at hp
  have hP:pvd t most (k+1) s (r :: q)=if 0≤r.sq∧r.sq < t.rooms.length∧0≤r.step∧r.step≤t.steps∧elt t.rooms r.sq.toNat < ldHi t (elt s) r.sq r.step then some q else none:=by
    show (if r=⟨3,0,0,0⟩ then _ else if _ then _ else _)=_;rw [if_neg h3,if_pos h2]
  have d3:decide ([(IntKind.i64,r.kind),(.i64,r.st),(.i64,r.sq),(.i64,r.step)]=[(IntKind.i64,(3:Int)),(.i64,0),(.i64,0),(.i64,0)])=false:=decide_eq_false (fun e=>h3 ((rn_eq3 r).1 e))
  have d2:decide ([(IntKind.i64,r.kind),(.i64,r.st),(.i64,r.sq),(.i64,r.step)]=[(IntKind.i64,(2:Int)),(.i64,0),(.i64,r.sq),(.i64,r.step)])=true:=decide_eq_true ((rn_eq2 r).2 h2)
  have k1:=c65 r.sq 0 (t.rooms.length - 1:Int)
  have k2:=c65 r.step 0 t.steps
  unfold W73
  refine Pure.give Try.call73 fun h hall=>?_
  rw [ht0]
  by_cases hin:0≤r.sq∧r.sq < t.rooms.length∧0≤r.step∧r.step≤t.steps
  case neg =>
    refine ACalls.of tab mixed Try.call73 Try.func73 rfl (fi:=⟨115,[10],[4],none,[(3,[0,1,3,0,8,0,39,127],[(0,false),(1,false),(2,true),(3,false),(4,false),(5,false),(6,false),(7,false)]),(10,[0,0,0,0,8,30,0,64,254,510,1022,0,2048,0,8192,30720,63488,131070,63,524287],[(0,false),(1,true),(2,false),(3,false),(4,true),(6,false),(7,true),(11,false),(12,true),(13,false),(14,true),(15,false),(16,true),(5,false),(8,false),(9,false),(10,true),(17,false),(18,false),(19,false)]),(14,[0,0,0,0,8,28,0,127,255,511,511,1023,4095],[(0,true),(1,false),(2,false),(3,false),(4,true),(6,false),(5,false),(7,false),(8,false),(9,false),(10,false),(11,false),(12,false)]),(17,[0,0,0,0,8,28,0,127,255,255,1023,2047],[(0,true),(1,false),(2,false),(3,false),(4,true),(6,false),(5,false),(7,false),(8,false),(9,false),(10,false),(11,false)])]⟩) rfl rfl (Nat.le_of_ble_eq_true rfl) (by decide) ?_
    unfold startA
    unfold Tw.cells
    repeat' (first|refine st_seq_reg rfl (by first|(simp only[go_sem,length_map,List.map_cons,List.length_cons,List.getD_cons_zero,Int.toNat_zero,d3,d2,tail_row];rfl)|rfl) (by first|(simp only[go_sem,length_map,List.map_cons,List.length_cons,List.getD_cons_zero,Int.toNat_zero,d3,d2,tail_row];rfl)|rfl) ?_|refine st_seq_draw rfl (by first|(simp only[go_sem,length_map,List.map_cons,List.length_cons,List.getD_cons_zero,Int.toNat_zero,d3,d2,tail_row];rfl)|rfl) (by first|(simp only[go_sem,length_map,List.map_cons,List.length_cons,List.getD_cons_zero,Int.toNat_zero,d3,d2,tail_row];rfl)|rfl) ?_|refine st_op ?_|refine st_det rfl (by simp (disch:=omega) only[go_sem,wr_i64,if_yes,if_no,↓reduceIte,reduceAdd,reduceMul,reduceEqDiff,Nat.reduceBEq,reduceLeDiff,length_map,List.map_cons,List.length_cons,List.getD_cons_zero,Int.toNat_zero,d3,d2,tail_row];rfl) ?_|refine st_dop rfl ?_|refine st_loc rfl (by simp (disch:=omega) only[go_sem,wr_i64,if_yes,if_no,↓reduceIte,reduceAdd,reduceMul,reduceEqDiff,Nat.reduceBEq,reduceLeDiff,length_map,List.map_cons,List.length_cons,List.getD_cons_zero,Int.toNat_zero,d3,d2,tail_row];rfl) ?_|refine st_store (by simp (disch:=omega) only[go_sem,wr_i64,if_yes,if_no,↓reduceIte,reduceAdd,reduceMul,reduceEqDiff,Nat.reduceBEq,reduceLeDiff,length_map,List.map_cons,List.length_cons,List.getD_cons_zero,Int.toNat_zero,d3,d2,tail_row];rfl) ?_|(refine st_pureE (by first|(simp (disch:=omega) only[go_sem,length_map,List.map_cons,List.length_cons,List.getD_cons_zero,Int.toNat_zero,d3,d2,tail_row];rfl)|rfl) rfl (k1) (by first|(simp only[go_sem,length_map,List.map_cons,List.length_cons,List.getD_cons_zero,Int.toNat_zero,d3,d2,tail_row];rfl)|rfl) (by intro n;first|(simp (disch:=omega) only[go_sem];rfl)|rfl) ?_;intro n hn)|(refine st_pureE (by first|(simp (disch:=omega) only[go_sem,length_map,List.map_cons,List.length_cons,List.getD_cons_zero,Int.toNat_zero,d3,d2,tail_row];rfl)|rfl) rfl (k2) (by first|(simp only[go_sem,length_map,List.map_cons,List.length_cons,List.getD_cons_zero,Int.toNat_zero,d3,d2,tail_row];rfl)|rfl) (by intro n;first|(simp (disch:=omega) only[go_sem];rfl)|rfl) ?_;intro n hn)|refine st_gT rfl rfl rfl ?_|refine st_gF rfl rfl rfl ?_|(refine st_gS rfl rfl ?_ ?_ <;> intro hg <;> (try simp only[decide_eq_true_eq,decide_eq_false_iff_not,Bool.not_eq_true',Bool.not_eq_false'] at hg))|refine st_condT rfl ?_|refine st_condF rfl ?_|(refine st_condS rfl ?_ ?_ <;> intro hg <;> (try simp only[decide_eq_true_eq,decide_eq_false_iff_not,Bool.not_eq_true',Bool.not_eq_false'] at hg))|refine st_nil ?_|refine st_dnil ?_|refine st_tN ?_|refine st_seq ?_|refine st_block ?_|refine st_skip ?_|refine st_ret ?_|refine st_tR ?_|refine st_bR ?_)
    all_goals try (exfalso;omega)
    all_goals
      simp (disch:=omega) only[AEnd,Try.results73,aresK,fin,go_sem,↓reduceIte,reduceEqDiff,reduceAdd,reduceLeDiff,if_yes,if_no,implies_true,true_and,and_true,List.reverse_cons,List.reverse_nil]
      exact .inl ⟨_,le_nilb 4 false,pvdA_none rfl (by rw [hP,if_neg (fun e=>hin ⟨e.1,e.2.1,e.2.2.1,e.2.2.2.1⟩)])⟩
  obtain ⟨Q,hQ⟩:∃ Q:Nat,r.sq=Q:=⟨r.sq.toNat,by omega⟩
  have hQr:Q < t.rooms.length:=by omega
  have k89:=c89 t s r.step hT hsl ⟨hin.2.2.1,by omega⟩
  have hget:(rlds t (elt s) r.step).getD Q []=[.int .i64 (sumF (rloF t (elt s) (Q:Nat) r.step) t.gs.length),.int .i64 (ldHi t (elt s) (Q:Nat) r.step)]:=sl_get hQr
  have hlen:(rlds t (elt s) r.step).length=t.rooms.length:=sl_len _ _ _
  rw [decide_eq_true (by omega)] at k1
  rw [decide_eq_true (by omega)] at k2
  have hP2:pvd t most (k+1) s (r :: q)=if elt t.rooms Q < ldHi t (elt s) (Q:Nat) r.step then some q else none:=by
    rw [hP,hQ]
    by_cases hm:elt t.rooms Q < ldHi t (elt s) (Q:Nat) r.step
    · rw [if_pos hm,if_pos ⟨by omega,by omega,hin.2.2.1,hin.2.2.2,hm⟩]
    · rw [if_neg hm,if_neg (fun e=>hm e.2.2.2.2)]
  have hget2:=ivs_getD (l:=t.rooms) (i:=Q) hQr
  rw [hQ] at k1 d3 d2
  generalize rlds t (elt s) r.step=RL at *
  generalize sumF (rloF t (elt s) (Q:Nat) r.step) t.gs.length=lo at *
  generalize ldHi t (elt s) (Q:Nat) r.step=hi at *
  refine ACalls.of tab mixed Try.call73 Try.func73 rfl (fi:=⟨115,[10],[4],none,[(3,[0,1,3,0,8,0,39,127],[(0,false),(1,false),(2,true),(3,false),(4,false),(5,false),(6,false),(7,false)]),(10,[0,0,0,0,8,30,0,64,254,510,1022,0,2048,0,8192,30720,63488,131070,63,524287],[(0,false),(1,true),(2,false),(3,false),(4,true),(6,false),(7,true),(11,false),(12,true),(13,false),(14,true),(15,false),(16,true),(5,false),(8,false),(9,false),(10,true),(17,false),(18,false),(19,false)]),(14,[0,0,0,0,8,28,0,127,255,511,511,1023,4095],[(0,true),(1,false),(2,false),(3,false),(4,true),(6,false),(5,false),(7,false),(8,false),(9,false),(10,false),(11,false),(12,false)]),(17,[0,0,0,0,8,28,0,127,255,255,1023,2047],[(0,true),(1,false),(2,false),(3,false),(4,true),(6,false),(5,false),(7,false),(8,false),(9,false),(10,false),(11,false)])]⟩) rfl rfl (Nat.le_of_ble_eq_true rfl) (by decide) ?_
  unfold startA
  unfold Tw.cells
  repeat' (first|refine st_seq_reg rfl (by first|(simp only[go_sem,length_map,List.map_cons,List.length_cons,List.getD_cons_zero,Int.toNat_zero,d3,d2,tail_row,hQ,hget,hget2,hlen];rfl)|rfl) (by first|(simp only[go_sem,length_map,List.map_cons,List.length_cons,List.getD_cons_zero,Int.toNat_zero,d3,d2,tail_row,hQ,hget,hget2,hlen];rfl)|rfl) ?_|refine st_seq_draw rfl (by first|(simp only[go_sem,length_map,List.map_cons,List.length_cons,List.getD_cons_zero,Int.toNat_zero,d3,d2,tail_row,hQ,hget,hget2,hlen];rfl)|rfl) (by first|(simp only[go_sem,length_map,List.map_cons,List.length_cons,List.getD_cons_zero,Int.toNat_zero,d3,d2,tail_row,hQ,hget,hget2,hlen];rfl)|rfl) ?_|refine st_op ?_|refine st_det rfl (by simp (disch:=omega) only[go_sem,wr_i64,if_yes,if_no,↓reduceIte,reduceAdd,reduceMul,reduceEqDiff,Nat.reduceBEq,reduceLeDiff,length_map,List.map_cons,List.length_cons,List.getD_cons_zero,Int.toNat_zero,d3,d2,tail_row,hQ,hget,hget2,hlen];rfl) ?_|refine st_dop rfl ?_|refine st_loc rfl (by simp (disch:=omega) only[go_sem,wr_i64,if_yes,if_no,↓reduceIte,reduceAdd,reduceMul,reduceEqDiff,Nat.reduceBEq,reduceLeDiff,length_map,List.map_cons,List.length_cons,List.getD_cons_zero,Int.toNat_zero,d3,d2,tail_row,hQ,hget,hget2,hlen];rfl) ?_|refine st_store (by simp (disch:=omega) only[go_sem,wr_i64,if_yes,if_no,↓reduceIte,reduceAdd,reduceMul,reduceEqDiff,Nat.reduceBEq,reduceLeDiff,length_map,List.map_cons,List.length_cons,List.getD_cons_zero,Int.toNat_zero,d3,d2,tail_row,hQ,hget,hget2,hlen];rfl) ?_|(refine st_pureE (by first|(simp (disch:=omega) only[go_sem,length_map,List.map_cons,List.length_cons,List.getD_cons_zero,Int.toNat_zero,d3,d2,tail_row,hQ,hget,hget2,hlen];rfl)|rfl) rfl (k1) (by first|(simp only[go_sem,length_map,List.map_cons,List.length_cons,List.getD_cons_zero,Int.toNat_zero,d3,d2,tail_row,hQ,hget,hget2,hlen];rfl)|rfl) (by intro n;first|(simp (disch:=omega) only[go_sem];rfl)|rfl) ?_;intro n hn)|(refine st_pureE (by first|(simp (disch:=omega) only[go_sem,length_map,List.map_cons,List.length_cons,List.getD_cons_zero,Int.toNat_zero,d3,d2,tail_row,hQ,hget,hget2,hlen];rfl)|rfl) rfl (k2) (by first|(simp only[go_sem,length_map,List.map_cons,List.length_cons,List.getD_cons_zero,Int.toNat_zero,d3,d2,tail_row,hQ,hget,hget2,hlen];rfl)|rfl) (by intro n;first|(simp (disch:=omega) only[go_sem];rfl)|rfl) ?_;intro n hn)|(refine st_pureE (by first|(simp (disch:=omega) only[go_sem,length_map,List.map_cons,List.length_cons,List.getD_cons_zero,Int.toNat_zero,d3,d2,tail_row,hQ,hget,hget2,hlen];rfl)|rfl) rfl (k89) (by first|(simp only[go_sem,length_map,List.map_cons,List.length_cons,List.getD_cons_zero,Int.toNat_zero,d3,d2,tail_row,hQ,hget,hget2,hlen];rfl)|rfl) (by intro n;first|(simp (disch:=omega) only[go_sem];rfl)|rfl) ?_;intro n hn)|refine st_gT rfl rfl rfl ?_|refine st_condT rfl ?_|refine st_condF rfl ?_|refine st_nil ?_|refine st_dnil ?_|refine st_tN ?_|refine st_seq ?_|refine st_block ?_|refine st_skip ?_|refine st_ret ?_|refine st_tR ?_|refine st_bR ?_)
  all_goals try (exfalso;omega)
  simp (disch:=omega) only[AEnd,Try.results73,aresK,fin,go_sem,↓reduceIte,reduceEqDiff,reduceAdd,reduceLeDiff,if_yes,if_no,implies_true,true_and,and_true,List.reverse_cons,List.reverse_nil]
  refine .inl ⟨_,VLe.refl _,?_⟩
  unfold pvdA
  rw [hP2]
  by_cases hm:elt t.rooms Q < hi
  · rw [if_pos hm,decide_eq_true hm]
  · rw [if_neg hm,decide_eq_false hm];exact ⟨q,rfl⟩
end Go.Proofs.Ythjbfdfhblloiaa

namespace Go.Proofs.Ythjbfdfhblloiaa
open Go.Av
set_option maxRecDepth 20000
def isN (t:Tw) (most:Int):Prop:=∀ s:List Int,s.length=t.sts.length→(∀ i,i < t.sts.length→elt s i=1 ∨ elt s i=2)→¬ most < shN s→crL t (elt s) ≠ []
theorem pvd_many {t:Tw} {most:Int} {k:Nat} {s:List Int} {rest:List Rn} (h:most < shN s):pvd t most (k+1) s (⟨3,0,0,0⟩ :: rest)=some rest:=by
  show (if (⟨3,0,0,0⟩:Rn)=⟨3,0,0,0⟩ then _ else _)=_
  rw [if_pos rfl,if_pos h]
theorem crL_is {t:Tw} {f:Nat→Int} {x:Cr} (h:x ∈ crL t f):∃ st q:Nat,st < (t.steps+1).toNat∧q < t.rooms.length∧elt t.rooms q < ldHi t f (q:Nat) (st:Nat)∧x.step=(st:Nat)∧x.sq=(q:Nat):=by
  obtain ⟨st,h1,h2⟩:=mem_catN.1 h
  obtain ⟨q,h3,h4⟩:=mem_catN.1 h2
  unfold crF at h4
  split at h4
  · rename_i e
    rw [List.mem_singleton] at h4
    subst h4
    exact ⟨st,q,h1,h3,e,rfl,rfl⟩
  · cases h4
theorem pvd_full {t:Tw} {most:Int} {k:Nat} {s:List Int} {rest:List Rn} {x:Cr} (h:x ∈ crL t (elt s)):pvd t most (k+1) s (⟨2,0,x.sq,x.step⟩ :: rest)=some rest:=by
  obtain ⟨st,q,h1,h2,h3,h4,h5⟩:=crL_is h
  show (if (⟨2,0,x.sq,x.step⟩:Rn)=⟨3,0,0,0⟩ then _ else if (2:Int)=2∧(0:Int)=0 then _ else _)=_
  rw [if_neg (fun e=>by injection e with e1;exact absurd e1 (by decide)),if_pos ⟨rfl,rfl⟩,if_pos]
  show 0≤x.sq∧x.sq < t.rooms.length∧0≤x.step∧x.step≤t.steps∧elt t.rooms x.sq.toNat < ldHi t (elt s) x.sq x.step
  rw [h4,h5]
  exact ⟨by omega,by omega,by omega,by omega,h3⟩
theorem pvd_split {t:Tw} {most:Int} {k:Nat} {s:List Int} {rest r2:List Rn} {i:Nat} (hi:i < t.sts.length) (hz:elt s i=0) (h1:pvd t most k (s.set i 1) rest=some r2):pvd t most (k+1) s (⟨1,(i:Nat),0,0⟩ :: rest)=pvd t most k (s.set i 2) r2:=by
  show (if (⟨1,(i:Nat),0,0⟩:Rn)=⟨3,0,0,0⟩ then _ else if (1:Int)=2∧((i:Nat):Int)=0 then _ else if (1:Int)=1∧(0:Int)=0∧(0:Int)=0 then (if 0≤((i:Nat):Int)∧((i:Nat):Int) < t.sts.length∧elt s ((i:Nat):Int).toNat=0 then match pvd t most k (s.set ((i:Nat):Int).toNat 1) rest with|none=>none|some r2=>pvd t most k (s.set ((i:Nat):Int).toNat 2) r2 else none) else none)=_
  rw [if_neg (fun e=>by injection e with e1;exact absurd e1 (by decide)),if_neg (fun e=>absurd e.1 (by decide)),if_pos ⟨rfl,rfl,rfl⟩,if_pos ⟨by omega,by omega,by rw [toNat_cast];exact hz⟩]
  simp only[toNat_cast,h1]
theorem pvd_prv {t:Tw} {most:Int} (hN:isN t most):∀ (k:Nat) (s:List Int) (rest:List Rn),Ok94 t most s→cntZ s < k→pvd t most k s (prv t most k s ++ rest)=some rest
  | 0,_,_,_,hc=>absurd hc (Nat.not_lt_zero _)
  | k+1,s,rest,hs,hc=>by
    by_cases hm:most < shN s
    · rw [prv_many hm];exact pvd_many hm
    cases hx:crL t (elt s) with
    | cons x l=>rw [prv_full hm hx];exact pvd_full (by rw [hx];simp)
    | nil =>
      cases hu:und t s with
      | none =>
        refine absurd hx (hN s hs.len (fun i hi=>?_) hm)
        have h1:=hs.val i hi
        have h2:¬ elt s i=0:=fun e=>by
          unfold und at hu
          rw [List.find?_eq_none] at hu
          exact hu i (List.mem_range.2 hi) (decide_eq_true e)
        omega
      | some i =>
        obtain ⟨hi,hz⟩:=und_is hu
        have hl:i < s.length:=by rw [hs.len];exact hi
        have c1:=cntZ_set s i 1 hl hz (by decide)
        have c2:=cntZ_set s i 2 hl hz (by decide)
        have ih1:=pvd_prv hN k (s.set i 1) (prv t most k (s.set i 2) ++ rest) (hs.set hi (.inl rfl)) (by omega)
        have ih2:=pvd_prv hN k (s.set i 2) rest (hs.set hi (.inr rfl)) (by omega)
        rw [prv_split hm hx hu,List.cons_append,List.append_assoc,pvd_split hi hz ih1]
        exact ih2
theorem pvd_app {t:Tw} {most:Int} {e:List Rn}:∀ (k:Nat) (s:List Int) (p r:List Rn),pvd t most k s p=some r→pvd t most k s (p ++ e)=some (r ++ e)
  | 0,_,_,_,h=>by cases h
  | _+1,_,[],_,h=>by cases h
  | k+1,s,x :: rest,r,h=>by
    rw [List.cons_append]
    unfold pvd at h ⊢
    split at h
    · rename_i h1;rw [if_pos h1]
      split at h
      · rename_i h2;rw [if_pos h2];cases h;rfl
      · cases h
    · rename_i h1;rw [if_neg h1]
      split at h
      · rename_i h2;rw [if_pos h2]
        split at h
        · rename_i h3;rw [if_pos h3];cases h;rfl
        · cases h
      · rename_i h2;rw [if_neg h2]
        split at h
        · rename_i h3;rw [if_pos h3]
          split at h
          · rename_i h4;rw [if_pos h4]
            cases h5:pvd t most k (s.set x.st.toNat 1) rest with
            | none=>rw [h5] at h;cases h
            | some r2 =>
              rw [h5] at h
              rw [pvd_app k _ rest r2 h5]
              exact pvd_app k _ r2 r h
          · cases h
        · cases h
def wt1 (x:Rn):Int:=if x.kind=1 then -1 else 1
def wt:List Rn→Int
  | []=>0
  | x :: r=>wt1 x+wt r
theorem pvd_wt {t:Tw} {most:Int}:∀ (k:Nat) (s:List Int) (p r:List Rn),pvd t most k s p=some r→wt p=wt r+1
  | 0,_,_,_,h=>by cases h
  | _+1,_,[],_,h=>by cases h
  | k+1,s,x :: rest,r,h=>by
    show wt1 x+wt rest=_
    unfold pvd at h
    split at h
    · rename_i h1
      split at h
      · cases h;rw [h1];unfold wt1;rw [if_neg (by decide)];omega
      · cases h
    · split at h
      · rename_i h2
        split at h
        · cases h;unfold wt1;rw [if_neg (by rw [h2.1];decide)];omega
        · cases h
      · split at h
        · rename_i h3
          split at h
          · cases h5:pvd t most k (s.set x.st.toNat 1) rest with
            | none=>rw [h5] at h;cases h
            | some r2 =>
              rw [h5] at h
              have e1:=pvd_wt k _ rest r2 h5
              have e2:=pvd_wt k _ r2 r h
              unfold wt1;rw [if_pos h3.1];omega
          · cases h
        · cases h
theorem wt_erase:∀ (l:List Rn) (j:Nat),j < l.length→wt l=wt1 (rn l j)+wt (l.take j ++ l.drop (j+1))
  | [],_,h=>absurd h (Nat.not_lt_zero _)
  | x :: r,0,_=>rfl
  | x :: r,j+1,h=>by
    have ih:=wt_erase r j (by simpa using h)
    show wt1 x+wt r=wt1 (rn r j)+(wt1 x+wt (r.take j ++ r.drop (j+1)))
    omega
theorem wt1_ne (x:Rn):wt1 x ≠ 0:=by unfold wt1;split <;> decide
theorem spoilt_less {t:Tw} {most:Int} {k:Nat} {s:List Int} {p:List Rn} (h:pvd t most k s p=some []) {j:Nat} (hj:j < p.length):pvd t most k s (p.take j ++ p.drop (j+1)) ≠ some []:=fun e=>by
  have e1:=pvd_wt k s _ _ h
  have e2:=pvd_wt k s _ _ e
  have e3:=wt_erase p j hj
  exact wt1_ne (rn p j) (by omega)
theorem spoilt_more {t:Tw} {most:Int} {k:Nat} {s:List Int} {p:List Rn} (h:pvd t most k s p=some []) (x:Rn):pvd t most k s (p ++ [x]) ≠ some []:=fun e=>by
  rw [pvd_app k s p [] h] at e
  cases e
structure Ext (n:Nat) (s:List Int) (f:Nat→Int):Prop where
  full:∀ i,i < n→f i=1 ∨ f i=2
  ext:∀ i,i < n→elt s i ≠ 0→f i=elt s i
theorem Ext.set {n:Nat} {s:List Int} {f:Nat→Int} (h:Ext n s f) {i:Nat} (hi:i < s.length):Ext n (s.set i (f i)) f:=⟨h.full,fun j hj hne=>by
  rw [elt_set s i _ hi] at hne ⊢
  unfold upd at hne ⊢
  by_cases e:j=i
  · rw [if_pos e,e]
  · rw [if_neg e] at hne ⊢;exact h.ext j hj hne⟩
theorem wlk_le {t:Tw} {s f:Nat→Int}:∀ (p:List Int) (k:Nat) (q:Int),(∀ x ∈ p,s x.toNat ≠ 0→f x.toNat=s x.toNat)→wlk t s p k q ≠ -2→wlk t f p k q=wlk t s p k q
  | [],_,_,_,_=>rfl
  | _ :: _,0,_,_,_=>rfl
  | p :: ps,k+1,q,h,hn=>by
    have e1:wlk t s (p :: ps) (k+1) q=if s p.toNat=0 then -2 else if s p.toNat=2 then q else wlk t s ps k (oth (sx t.sts p.toNat) q):=rfl
    have e2:wlk t f (p :: ps) (k+1) q=if f p.toNat=0 then -2 else if f p.toNat=2 then q else wlk t f ps k (oth (sx t.sts p.toNat) q):=rfl
    rw [e1] at hn ⊢
    rw [e2]
    by_cases h0:s p.toNat=0
    · rw [if_pos h0] at hn;exact absurd rfl hn
    · rw [if_neg h0] at hn ⊢
      rw [h p (by simp) h0,if_neg h0]
      by_cases h2:s p.toNat=2
      · rw [if_pos h2,if_pos h2]
      · rw [if_neg h2] at hn ⊢
        rw [if_neg h2]
        exact wlk_le ps k _ (fun x hx=>h x (by simp [hx])) hn
theorem plc_le {t:Tw} {g:Gp} (hG:GpOk t g) {s f:Nat→Int} (h:∀ i,i < t.sts.length→s i ≠ 0→f i=s i) {c st:Int} (hn:plc t s g c st ≠ -2):plc t f g c st=plc t s g c st:=by
  unfold plc at hn ⊢
  split
  · rfl
  · rename_i e
    rw [if_neg e] at hn
    refine wlk_le _ _ _ (fun x hx hne=>?_) hn
    obtain ⟨i,hi,rfl⟩:=List.getElem_of_mem hx
    have:=hG.st i hi
    unfold elt at this
    rw [List.getD_eq_getElem?_getD,List.getElem?_eq_getElem hi] at this
    exact h _ (by simp at this;omega) hne
theorem ldHi_le {t:Tw} (hT:TwOk t) {s f:Nat→Int} (h:∀ i,i < t.sts.length→s i ≠ 0→f i=s i) {q st:Int} (hq:0≤q):ldHi t s q st≤ldHi t f q st:=by
  unfold ldHi
  refine sumF_le fun i hi=>?_
  have hsz:=(hT.g i hi).size
  unfold hiF
  by_cases e:someB t s (gp t.gs i) q st=true
  · obtain ⟨c,h1,h2,h3⟩:=someB_iff.1 e
    rw [if_pos e,if_pos (someB_iff.2 ⟨c,h1,h2,by rw [plc_le (hT.g i hi) h (by rw [h3];omega)];exact h3⟩)]
    exact Int.le_refl _
  · rw [if_neg e]
    split <;> omega
theorem shN_le {n:Nat} {s:List Int} {f:Nat→Int} (hs:s.length=n) (h:Ext n s f):shN s≤sumF (fun i=>if f i=2 then 1 else 0) n:=by
  unfold shN
  rw [hs]
  refine sumF_le fun i hi=>?_
  by_cases e:elt s i=2
  · rw [if_pos e,if_pos (by rw [h.ext i hi (by rw [e];decide)];exact e)];exact Int.le_refl _
  · rw [if_neg e];split <;> decide
theorem pvd_sound {t:Tw} (hT:TwOk t) {M:Int}:∀ (k:Nat) (s:List Int) (p r:List Rn),s.length=t.sts.length→pvd t M k s p=some r→∀ f:Nat→Int,Ext t.sts.length s f→¬ M < sumF (fun i=>if f i=2 then 1 else 0) t.sts.length→crL t f ≠ []
  | 0,_,_,_,_,h,_,_,_=>by cases h
  | _+1,_,[],_,_,h,_,_,_=>by cases h
  | k+1,s,x :: rest,r,hs,h,f,hE,hM=>by
    unfold pvd at h
    split at h
    · split at h
      · rename_i h2;have:=shN_le hs hE;omega
      · cases h
    · split at h
      · split at h
        · rename_i h3
          obtain ⟨a1,a2,a3,a4,a5⟩:=h3
          have hle:=ldHi_le hT (s:=elt s) (f:=f) hE.ext (q:=x.sq) (st:=x.step) a1
          obtain ⟨Q,hQ⟩:∃ Q:Nat,x.sq=Q:=⟨x.sq.toNat,by omega⟩
          obtain ⟨S,hS⟩:∃ S:Nat,x.step=S:=⟨x.step.toNat,by omega⟩
          rw [hQ,hS] at hle a5
          rw [toNat_cast] at a5
          intro hn
          have:(⟨(S:Nat),(Q:Nat),ldHi t f (Q:Nat) (S:Nat)⟩:Cr) ∈ crL t f:=mem_catN.2 ⟨S,by omega,mem_catN.2 ⟨Q,by omega,by unfold crF;rw [if_pos (by omega)];simp⟩⟩
          rw [hn] at this;cases this
        · cases h
      · split at h
        · split at h
          · rename_i h4
            have hi:x.st.toNat < t.sts.length:=by omega
            have hl:x.st.toNat < s.length:=by omega
            cases h5:pvd t M k (s.set x.st.toNat 1) rest with
            | none=>rw [h5] at h;cases h
            | some r2 =>
              rw [h5] at h
              have hset:=hE.set hl
              rcases hE.full _ hi with e|e
              · rw [e] at hset
                exact pvd_sound hT k _ rest r2 (by rw [List.length_set];exact hs) h5 f hset hM
              · rw [e] at hset
                exact pvd_sound hT k _ r2 r (by rw [List.length_set];exact hs) h f hset hM
          · cases h
        · cases h
theorem proved_none {t:Tw} (hT:TwOk t) {p:List Rn} (h:provedB t (t.sts.length:Nat) p=true):clo t t.sts.length=none:=by
  unfold provedB at h
  have h:=of_decide_eq_true h
  unfold clo
  rw [List.find?_eq_none]
  intro l hl
  have hfull:∀ i,cls l i=1 ∨ cls l i=2:=fun i=>by unfold cls;split <;> simp
  have hb:∀ n:Nat,sumF (fun i=>if cls l i=2 then (1:Int) else 0) n≤n:=fun n=>by
    induction n with
    | zero=>exact Int.le_refl _
    | succ n ih =>
      show sumF _ n+(if cls l n=2 then (1:Int) else 0)≤_
      split <;> omega
  have:=pvd_sound hT _ _ _ _ (by simp) h (cls l) ⟨fun i _=>hfull i,fun i hi hne=>absurd (by unfold elt;rw [List.getD_eq_getElem?_getD,List.getElem?_replicate];split <;> rfl) hne⟩ (by have:=hb t.sts.length;omega)
  simp only[List.isEmpty_iff]
  exact this
end Go.Proofs.Ythjbfdfhblloiaa

namespace Go.Proofs.Ythjbfdfhblloiaa
open Go.Av
attribute [local irreducible] Shp
set_option maxRecDepth 20000
def I64 (n:Int):Prop:=-9223372036854775808≤n∧n≤9223372036854775807
theorem shpInt {d:Nat} {vs:List AV} (h:Shp Try.prog (d+1) 3 vs):∃ n,vs=[.int .i64 n]∧I64 n:=by
  obtain ⟨n,e,hw⟩:=shp_int Try.underlying3 h
  exact ⟨n,e,wf_i64 hw⟩
theorem shpNums {d:Nat} {vs:List AV} (h:Shp Try.prog (d+2) 22 vs):∃ l:List Int,vs=[.lst 1 (l.map iv)]∧l.length≤maxLen:=by
  obtain ⟨l,e,h1,_⟩:=shp_slice (f:=iv) (q:=fun _=>True) Try.underlying22 cel3 h fun r hr=>by
    obtain ⟨x,e,_⟩:=shpInt hr
    exact ⟨x,e,trivial⟩
  exact ⟨l,e,h1⟩
end Go.Proofs.Ythjbfdfhblloiaa
