/- Contracts of functions that the claim reaches: what each call gives, told in our own logic. Conditions: those of each theorem. -/
import Derived.Test.YthjbfdfhblloiaaQ22
open Nat (reduceAdd reduceMul reduceEqDiff reduceLeDiff)
open List (length_map)
set_option linter.all false
set_option linter.unusedSimpArgs false
set_option linter.unusedVariables false
namespace Go.Proofs.Ythjbfdfhblloiaa
open Go.Av
attribute [local irreducible] thenA blockA awp awpOps awpD awp1
set_option maxHeartbeats 8000000
set_option maxRecDepth 20000
theorem w69_end (t:Tw) (most:Int) (p:List Rn) (b:Nat × Nat) (k d:Nat) (s:List Int) (i:Nat) (h:AH) (hT:TwOk t) (hp:p.length≤1000000) (hsl:s.length=t.sts.length) (hb:h.at_ b=some ⟨1,[[.int .i64 (i:Nat)]]⟩) (hlt:i=p.length):W69 t most p b (k+1) d s i h:=by
  subst hlt
  have hP:pvd t most (k+1) s (p.drop p.length)=none:=by rw [List.drop_length];rfl
  unfold W69
  refine ACalls.of tab mixed Try.call69 Try.func69 rfl (fi:=⟨105,[8],[6,41,48,80],none,[(6,[0,1,0,7,15],[(0,true),(2,true),(1,false),(3,false),(4,false)]),(8,[0,1,3,7,0,16,48,127,255,511,1023,511,2559,6655,16383,32767,65535,131071,131071,131071,655359,131071,2228223,8388607,16777215,131071,33685503,131071,134348799,503447551,1040318463,2147483647,4294967295,8589934591],[(0,false),(1,true),(2,false),(3,false),(4,false),(5,true),(6,false),(7,false),(8,false),(9,false),(10,true),(11,false),(12,true),(13,false),(14,false),(15,false),(16,false),(17,true),(18,true),(19,false),(20,true),(21,false),(22,true),(25,false),(26,true),(27,false),(28,true),(29,false),(30,true),(23,false),(24,false),(31,false),(32,false),(33,false)]),(10,[0,1,3,7,0,16,48,127,255,511,1023,2047,4095,8191,16383,32767,65535,65535,65535,327679,983039,2097151,4194303,8388607,16777215,16777215,16777215,83886079,251658239,536870911,1073741823,2147483647],[(0,false),(1,true),(2,false),(3,false),(4,false),(5,true),(6,false),(7,false),(8,false),(9,false),(10,true),(11,false),(12,true),(13,false),(14,false),(15,false),(16,true),(17,true),(18,false),(19,true),(20,false),(21,false),(22,false),(23,false),(24,true),(25,true),(26,false),(27,true),(28,false),(29,false),(30,false),(31,false)])]⟩) rfl rfl (Nat.le_of_ble_eq_true rfl) (by decide) ?_
  unfold startA
  unfold Tw.cells
  repeat' (first|refine st_seq_reg rfl (by first|(simp only[go_sem,length_map,hb];rfl)|rfl) (by first|(simp only[go_sem,length_map,hb];rfl)|rfl) ?_|refine st_op ?_|refine st_det rfl (by simp (disch:=omega) only[go_sem,wr_i64,if_yes,if_no,↓reduceIte,reduceAdd,reduceMul,reduceEqDiff,Nat.reduceBEq,reduceLeDiff,length_map,hb];rfl) ?_|refine st_condT rfl ?_|refine st_nil ?_|refine st_seq ?_|refine st_ret ?_|refine st_tR ?_)
  all_goals try (exfalso;omega)
  simp (disch:=omega) only[AEnd,Try.results69,aresK,fin,go_sem,↓reduceIte,reduceEqDiff,reduceAdd,reduceLeDiff,if_yes,if_no,implies_true,true_and,and_true,List.reverse_cons,List.reverse_nil]
  exact ⟨by omega,_,Nat.le_refl _,hb,.inr hP⟩
theorem w69_many (t:Tw) (most:Int) (p:List Rn) (b:Nat × Nat) (k d:Nat) (s:List Int) (i:Nat) (h:AH) (hT:TwOk t) (hp:p.length≤1000000) (hsl:s.length=t.sts.length) (hb:h.at_ b=some ⟨1,[[.int .i64 (i:Nat)]]⟩) (hlt:i < p.length) (h3:rn p i=⟨3,0,0,0⟩):W69 t most p b (k+1) d s i h:=by
  have hsn:=hT.sn
  have hdr:p.drop i=rn p i :: p.drop (i+1):=drop_getD _ hlt
  unfold W69
  rw [hdr]
  generalize hr:rn p i=r at *
  have k70:=c70 (elt s)
  rw [shN_eq s (by omega)] at k70
  have hP:pvd t most (k+1) s (r :: p.drop (i+1))=if most < shN s then some (p.drop (i+1)) else none:=by
    show (if r=⟨3,0,0,0⟩ then _ else _)=_;rw [if_pos h3]
  have d3:decide ([(IntKind.i64,r.kind),(.i64,r.st),(.i64,r.sq),(.i64,r.step)]=[(IntKind.i64,(3:Int)),(.i64,0),(.i64,0),(.i64,0)])=true:=decide_eq_true ((rn_eq3 r).2 h3)
  refine ACalls.of tab mixed Try.call69 Try.func69 rfl (fi:=⟨105,[8],[6,41,48,80],none,[(6,[0,1,0,7,15],[(0,true),(2,true),(1,false),(3,false),(4,false)]),(8,[0,1,3,7,0,16,48,127,255,511,1023,511,2559,6655,16383,32767,65535,131071,131071,131071,655359,131071,2228223,8388607,16777215,131071,33685503,131071,134348799,503447551,1040318463,2147483647,4294967295,8589934591],[(0,false),(1,true),(2,false),(3,false),(4,false),(5,true),(6,false),(7,false),(8,false),(9,false),(10,true),(11,false),(12,true),(13,false),(14,false),(15,false),(16,false),(17,true),(18,true),(19,false),(20,true),(21,false),(22,true),(25,false),(26,true),(27,false),(28,true),(29,false),(30,true),(23,false),(24,false),(31,false),(32,false),(33,false)]),(10,[0,1,3,7,0,16,48,127,255,511,1023,2047,4095,8191,16383,32767,65535,65535,65535,327679,983039,2097151,4194303,8388607,16777215,16777215,16777215,83886079,251658239,536870911,1073741823,2147483647],[(0,false),(1,true),(2,false),(3,false),(4,false),(5,true),(6,false),(7,false),(8,false),(9,false),(10,true),(11,false),(12,true),(13,false),(14,false),(15,false),(16,true),(17,true),(18,false),(19,true),(20,false),(21,false),(22,false),(23,false),(24,true),(25,true),(26,false),(27,true),(28,false),(29,false),(30,false),(31,false)])]⟩) rfl rfl (Nat.le_of_ble_eq_true rfl) (by decide) ?_
  unfold startA
  unfold Tw.cells
  repeat' (first|refine st_seq_reg rfl (by first|(simp only[go_sem,length_map,hb,hr,d3];rfl)|rfl) (by first|(simp only[go_sem,length_map,hb,hr,d3];rfl)|rfl) ?_|refine st_seq_draw rfl (by first|(simp only[go_sem,length_map,hb,hr,d3];rfl)|rfl) (by first|(simp only[go_sem,length_map,hb,hr,d3];rfl)|rfl) ?_|refine st_op ?_|refine st_det rfl (by simp (disch:=omega) only[go_sem,wr_i64,if_yes,if_no,↓reduceIte,reduceAdd,reduceMul,reduceEqDiff,Nat.reduceBEq,reduceLeDiff,length_map,hb,hr,d3];rfl) ?_|refine st_dop rfl ?_|refine st_loc rfl (by simp (disch:=omega) only[go_sem,wr_i64,if_yes,if_no,↓reduceIte,reduceAdd,reduceMul,reduceEqDiff,Nat.reduceBEq,reduceLeDiff,length_map,hb,hr,d3];rfl) ?_|refine st_store (by simp (disch:=omega) only[go_sem,wr_i64,if_yes,if_no,↓reduceIte,reduceAdd,reduceMul,reduceEqDiff,Nat.reduceBEq,reduceLeDiff,length_map,hb,hr,d3];rfl) ?_|(refine st_pureE (by first|(simp (disch:=omega) only[go_sem,length_map,hb,hr,d3];rfl)|rfl) rfl (k70) (by first|(simp only[go_sem,length_map,hb,hr,d3];rfl)|rfl) (by intro n;first|(simp (disch:=omega) only[go_sem];rfl)|rfl) ?_;intro n hn)|refine st_condT rfl ?_|(refine st_condS rfl ?_ ?_ <;> intro hg <;> (try simp only[decide_eq_true_eq,decide_eq_false_iff_not,Bool.not_eq_true',Bool.not_eq_false'] at hg))|refine st_nil ?_|refine st_dnil ?_|refine st_tN ?_|refine st_seq ?_|refine st_block ?_|refine st_skip ?_|refine st_ret ?_|refine st_tR ?_|refine st_bR ?_)
  all_goals try (exfalso;omega)
  simp (disch:=omega) only[AEnd,Try.results69,aresK,fin,go_sem,↓reduceIte,reduceEqDiff,reduceAdd,reduceLeDiff,if_yes,if_no,implies_true,true_and,and_true,List.reverse_cons,List.reverse_nil]
  refine ⟨by omega,fun b' q _=>if_neg q,i+1,hlt,rfl,?_⟩
  rw [hP]
  by_cases hm:most < shN s
  · rw [if_pos hm];exact .inl ⟨by rw [decide_eq_true hm],rfl⟩
  · rw [if_neg hm];exact .inr ⟨by rw [decide_eq_false hm],rfl⟩
theorem w69_none (t:Tw) (most:Int) (p:List Rn) (b:Nat × Nat) (k d:Nat) (s:List Int) (i:Nat) (h:AH) (hT:TwOk t) (hp:p.length≤1000000) (hsl:s.length=t.sts.length) (hb:h.at_ b=some ⟨1,[[.int .i64 (i:Nat)]]⟩) (hlt:i < p.length) (h3:¬ rn p i=⟨3,0,0,0⟩) (h2:¬ ((rn p i).kind=2∧(rn p i).st=0)) (h1:¬ ((rn p i).kind=1∧(rn p i).sq=0∧(rn p i).step=0)):W69 t most p b (k+1) d s i h:=by
  have hsn:=hT.sn
  have hdr:p.drop i=rn p i :: p.drop (i+1):=drop_getD _ hlt
  unfold W69
  rw [hdr]
  generalize hr:rn p i=r at *
  have hP:pvd t most (k+1) s (r :: p.drop (i+1))=none:=by
    show (if r=⟨3,0,0,0⟩ then _ else if _ then _ else if _ then _ else _)=_;rw [if_neg h3,if_neg h2,if_neg h1]
  have d3:decide ([(IntKind.i64,r.kind),(.i64,r.st),(.i64,r.sq),(.i64,r.step)]=[(IntKind.i64,(3:Int)),(.i64,0),(.i64,0),(.i64,0)])=false:=decide_eq_false (fun e=>h3 ((rn_eq3 r).1 e))
  have d2:decide ([(IntKind.i64,r.kind),(.i64,r.st),(.i64,r.sq),(.i64,r.step)]=[(IntKind.i64,(2:Int)),(.i64,0),(.i64,r.sq),(.i64,r.step)])=false:=decide_eq_false (fun e=>h2 ((rn_eq2 r).1 e))
  have d1:decide ([(IntKind.i64,r.kind),(.i64,r.st),(.i64,r.sq),(.i64,r.step)]=[(IntKind.i64,(1:Int)),(.i64,r.st),(.i64,0),(.i64,0)])=false:=decide_eq_false (fun e=>h1 ((rn_eq1 r).1 e))
  refine ACalls.of tab mixed Try.call69 Try.func69 rfl (fi:=⟨105,[8],[6,41,48,80],none,[(6,[0,1,0,7,15],[(0,true),(2,true),(1,false),(3,false),(4,false)]),(8,[0,1,3,7,0,16,48,127,255,511,1023,511,2559,6655,16383,32767,65535,131071,131071,131071,655359,131071,2228223,8388607,16777215,131071,33685503,131071,134348799,503447551,1040318463,2147483647,4294967295,8589934591],[(0,false),(1,true),(2,false),(3,false),(4,false),(5,true),(6,false),(7,false),(8,false),(9,false),(10,true),(11,false),(12,true),(13,false),(14,false),(15,false),(16,false),(17,true),(18,true),(19,false),(20,true),(21,false),(22,true),(25,false),(26,true),(27,false),(28,true),(29,false),(30,true),(23,false),(24,false),(31,false),(32,false),(33,false)]),(10,[0,1,3,7,0,16,48,127,255,511,1023,2047,4095,8191,16383,32767,65535,65535,65535,327679,983039,2097151,4194303,8388607,16777215,16777215,16777215,83886079,251658239,536870911,1073741823,2147483647],[(0,false),(1,true),(2,false),(3,false),(4,false),(5,true),(6,false),(7,false),(8,false),(9,false),(10,true),(11,false),(12,true),(13,false),(14,false),(15,false),(16,true),(17,true),(18,false),(19,true),(20,false),(21,false),(22,false),(23,false),(24,true),(25,true),(26,false),(27,true),(28,false),(29,false),(30,false),(31,false)])]⟩) rfl rfl (Nat.le_of_ble_eq_true rfl) (by decide) ?_
  unfold startA
  unfold Tw.cells
  repeat' (first|refine st_seq_reg rfl (by first|(simp only[go_sem,length_map,hb,hr,d3,d2,d1];rfl)|rfl) (by first|(simp only[go_sem,length_map,hb,hr,d3,d2,d1];rfl)|rfl) ?_|refine st_op ?_|refine st_det rfl (by simp (disch:=omega) only[go_sem,wr_i64,if_yes,if_no,↓reduceIte,reduceAdd,reduceMul,reduceEqDiff,Nat.reduceBEq,reduceLeDiff,length_map,hb,hr,d3,d2,d1];rfl) ?_|refine st_loc rfl (by simp (disch:=omega) only[go_sem,wr_i64,if_yes,if_no,↓reduceIte,reduceAdd,reduceMul,reduceEqDiff,Nat.reduceBEq,reduceLeDiff,length_map,hb,hr,d3,d2,d1];rfl) ?_|refine st_store (by simp (disch:=omega) only[go_sem,wr_i64,if_yes,if_no,↓reduceIte,reduceAdd,reduceMul,reduceEqDiff,Nat.reduceBEq,reduceLeDiff,length_map,hb,hr,d3,d2,d1];rfl) ?_|refine st_condF rfl ?_|(refine st_condS rfl ?_ ?_ <;> intro hg <;> (try simp only[decide_eq_true_eq,decide_eq_false_iff_not,Bool.not_eq_true',Bool.not_eq_false'] at hg))|refine st_nil ?_|refine st_tN ?_|refine st_seq ?_|refine st_block ?_|refine st_skip ?_|refine st_ret ?_|refine st_tR ?_|refine st_bN ?_)
  all_goals try (exfalso;omega)
  simp (disch:=omega) only[AEnd,Try.results69,aresK,fin,go_sem,↓reduceIte,reduceEqDiff,reduceAdd,reduceLeDiff,if_yes,if_no,implies_true,true_and,and_true,List.reverse_cons,List.reverse_nil]
  exact ⟨by omega,fun b' q _=>if_neg q,i+1,hlt,rfl,.inr hP⟩
theorem w69_full (t:Tw) (most:Int) (p:List Rn) (b:Nat × Nat) (k d:Nat) (s:List Int) (i:Nat) (h:AH) (hT:TwOk t) (hp:p.length≤1000000) (hsl:s.length=t.sts.length) (hb:h.at_ b=some ⟨1,[[.int .i64 (i:Nat)]]⟩) (hlt:i < p.length) (h3:¬ rn p i=⟨3,0,0,0⟩) (h2:(rn p i).kind=2∧(rn p i).st=0):W69 t most p b (k+1) d s i h:=by
  have hsn:=hT.sn
  have hdr:p.drop i=rn p i :: p.drop (i+1):=drop_getD _ hlt
  unfold W69
  rw [hdr]
  generalize hr:rn p i=r at *
  have hP:pvd t most (k+1) s (r :: p.drop (i+1))=if 0≤r.sq∧r.sq < t.rooms.length∧0≤r.step∧r.step≤t.steps∧elt t.rooms r.sq.toNat < ldHi t (elt s) r.sq r.step then some (p.drop (i+1)) else none:=by
    show (if r=⟨3,0,0,0⟩ then _ else if _ then _ else _)=_;rw [if_neg h3,if_pos h2]
  have d3:decide ([(IntKind.i64,r.kind),(.i64,r.st),(.i64,r.sq),(.i64,r.step)]=[(IntKind.i64,(3:Int)),(.i64,0),(.i64,0),(.i64,0)])=false:=decide_eq_false (fun e=>h3 ((rn_eq3 r).1 e))
  have d2:decide ([(IntKind.i64,r.kind),(.i64,r.st),(.i64,r.sq),(.i64,r.step)]=[(IntKind.i64,(2:Int)),(.i64,0),(.i64,r.sq),(.i64,r.step)])=true:=decide_eq_true ((rn_eq2 r).2 h2)
  have hst:=hT.steps
  have hrn:=hT.rn
  refine ACalls.of tab mixed Try.call69 Try.func69 rfl (fi:=⟨105,[8],[6,41,48,80],none,[(6,[0,1,0,7,15],[(0,true),(2,true),(1,false),(3,false),(4,false)]),(8,[0,1,3,7,0,16,48,127,255,511,1023,511,2559,6655,16383,32767,65535,131071,131071,131071,655359,131071,2228223,8388607,16777215,131071,33685503,131071,134348799,503447551,1040318463,2147483647,4294967295,8589934591],[(0,false),(1,true),(2,false),(3,false),(4,false),(5,true),(6,false),(7,false),(8,false),(9,false),(10,true),(11,false),(12,true),(13,false),(14,false),(15,false),(16,false),(17,true),(18,true),(19,false),(20,true),(21,false),(22,true),(25,false),(26,true),(27,false),(28,true),(29,false),(30,true),(23,false),(24,false),(31,false),(32,false),(33,false)]),(10,[0,1,3,7,0,16,48,127,255,511,1023,2047,4095,8191,16383,32767,65535,65535,65535,327679,983039,2097151,4194303,8388607,16777215,16777215,16777215,83886079,251658239,536870911,1073741823,2147483647],[(0,false),(1,true),(2,false),(3,false),(4,false),(5,true),(6,false),(7,false),(8,false),(9,false),(10,true),(11,false),(12,true),(13,false),(14,false),(15,false),(16,true),(17,true),(18,false),(19,true),(20,false),(21,false),(22,false),(23,false),(24,true),(25,true),(26,false),(27,true),(28,false),(29,false),(30,false),(31,false)])]⟩) rfl rfl (Nat.le_of_ble_eq_true rfl) (by decide) ?_
  unfold startA
  unfold Tw.cells
  repeat' (first|refine st_seq_reg rfl (by first|(simp only[go_sem,length_map,hb,hr,d3,d2];rfl)|rfl) (by first|(simp only[go_sem,length_map,hb,hr,d3,d2];rfl)|rfl) ?_|refine st_seq_draw rfl (by first|(simp only[go_sem,length_map,hb,hr,d3,d2];rfl)|rfl) (by first|(simp only[go_sem,length_map,hb,hr,d3,d2];rfl)|rfl) ?_|refine st_op ?_|refine st_det rfl (by simp (disch:=omega) only[go_sem,wr_i64,if_yes,if_no,↓reduceIte,reduceAdd,reduceMul,reduceEqDiff,Nat.reduceBEq,reduceLeDiff,length_map,hb,hr,d3,d2];rfl) ?_|refine st_dop rfl ?_|refine st_loc rfl (by simp (disch:=omega) only[go_sem,wr_i64,if_yes,if_no,↓reduceIte,reduceAdd,reduceMul,reduceEqDiff,Nat.reduceBEq,reduceLeDiff,length_map,hb,hr,d3,d2];rfl) ?_|refine st_store (by simp (disch:=omega) only[go_sem,wr_i64,if_yes,if_no,↓reduceIte,reduceAdd,reduceMul,reduceEqDiff,Nat.reduceBEq,reduceLeDiff,length_map,hb,hr,d3,d2];rfl) ?_|(refine st_pureE (by first|(simp (disch:=omega) only[go_sem,length_map,hb,hr,d3,d2];rfl)|rfl) rfl (c68a 0 (t.rooms.length - 1:Int) r.sq) (by first|(simp only[go_sem,length_map,hb,hr,d3,d2];rfl)|rfl) (by intro n;first|(simp (disch:=omega) only[go_sem];rfl)|rfl) ?_;intro n hn)|(refine st_pureE (by first|(simp (disch:=omega) only[go_sem,length_map,hb,hr,d3,d2];rfl)|rfl) rfl (c68a 0 t.steps r.step) (by first|(simp only[go_sem,length_map,hb,hr,d3,d2];rfl)|rfl) (by intro n;first|(simp (disch:=omega) only[go_sem];rfl)|rfl) ?_;intro n hn)|(refine st_pureE (by first|(simp (disch:=omega) only[go_sem,length_map,hb,hr,d3,d2];rfl)|rfl) rfl (c71 t (elt s) r.sq r.step hT ⟨by omega,by omega⟩) (by first|(simp only[go_sem,length_map,hb,hr,d3,d2];rfl)|rfl) (by intro n;first|(simp (disch:=omega) only[go_sem];rfl)|rfl) ?_;intro n hn)|refine st_dgT rfl rfl rfl rfl ?_|refine st_dgF rfl rfl rfl ?_|(refine st_dgS rfl rfl ?_ ?_ <;> intro hg <;> (try simp only[decide_eq_true_eq,decide_eq_false_iff_not,Bool.not_eq_true',Bool.not_eq_false'] at hg))|refine st_condT rfl ?_|refine st_condF rfl ?_|(refine st_condS rfl ?_ ?_ <;> intro hg <;> (try simp only[decide_eq_true_eq,decide_eq_false_iff_not,Bool.not_eq_true',Bool.not_eq_false'] at hg))|refine st_nil ?_|refine st_dnil ?_|refine st_tN ?_|refine st_seq ?_|refine st_block ?_|refine st_skip ?_|refine st_ret ?_|refine st_tR ?_|refine st_bR ?_)
  all_goals try (exfalso;omega)
  all_goals
    simp (disch:=omega) only[AEnd,Try.results69,aresK,fin,go_sem,↓reduceIte,reduceEqDiff,reduceAdd,reduceLeDiff,if_yes,if_no,implies_true,true_and,and_true,List.reverse_cons,List.reverse_nil]
    refine ⟨by omega,fun b' q _=>if_neg q,i+1,hlt,rfl,?_⟩
    rw [hP]
  · by_cases hm:elt t.rooms r.sq.toNat < ldHi t (elt s) r.sq r.step
    · rw [if_pos (by omega)];exact .inl ⟨by rw [decide_eq_true hm],rfl⟩
    · rw [if_neg (by omega)];exact .inr ⟨by rw [decide_eq_false hm],rfl⟩
  all_goals
    rw [if_neg (by omega)];first|exact .inr ⟨rfl,rfl⟩|exact .inr rfl|simp
theorem w69_bad (t:Tw) (most:Int) (p:List Rn) (b:Nat × Nat) (k d:Nat) (s:List Int) (i:Nat) (h:AH) (hT:TwOk t) (hp:p.length≤1000000) (hsl:s.length=t.sts.length) (hb:h.at_ b=some ⟨1,[[.int .i64 (i:Nat)]]⟩) (hlt:i < p.length) (h3:¬ rn p i=⟨3,0,0,0⟩) (h2:¬ ((rn p i).kind=2∧(rn p i).st=0)) (h1:(rn p i).kind=1∧(rn p i).sq=0∧(rn p i).step=0) (hc:¬ (0≤(rn p i).st∧(rn p i).st < t.sts.length∧elt s (rn p i).st.toNat=0)):W69 t most p b (k+1) d s i h:=by
  have hsn:=hT.sn
  have hdr:p.drop i=rn p i :: p.drop (i+1):=drop_getD _ hlt
  unfold W69
  rw [hdr]
  generalize hr:rn p i=r at *
  have hP:pvd t most (k+1) s (r :: p.drop (i+1))=none:=by
    show (if r=⟨3,0,0,0⟩ then _ else if _ then _ else if _ then (if _ then _ else _) else _)=_;rw [if_neg h3,if_neg h2,if_pos h1,if_neg hc]
  have d3:decide ([(IntKind.i64,r.kind),(.i64,r.st),(.i64,r.sq),(.i64,r.step)]=[(IntKind.i64,(3:Int)),(.i64,0),(.i64,0),(.i64,0)])=false:=decide_eq_false (fun e=>h3 ((rn_eq3 r).1 e))
  have d2:decide ([(IntKind.i64,r.kind),(.i64,r.st),(.i64,r.sq),(.i64,r.step)]=[(IntKind.i64,(2:Int)),(.i64,0),(.i64,r.sq),(.i64,r.step)])=false:=decide_eq_false (fun e=>h2 ((rn_eq2 r).1 e))
  have d1:decide ([(IntKind.i64,r.kind),(.i64,r.st),(.i64,r.sq),(.i64,r.step)]=[(IntKind.i64,(1:Int)),(.i64,r.st),(.i64,0),(.i64,0)])=true:=decide_eq_true ((rn_eq1 r).2 h1)
  by_cases hr0:0≤r.st∧r.st≤(t.sts.length - 1:Int)
  · have k68:Pure Try.prog 68 [.int .i64 0,.int .i64 (t.sts.length - 1:Int),.lst 1 [[.int .i64 r.st]]] (fun v=>v=.bool true):=by
      have k:=c68a 0 (t.sts.length - 1:Int) r.st
      rw [decide_eq_true hr0] at k;exact k
    have hz:decide (elt s r.st.toNat=0)=false:=decide_eq_false (fun e=>hc ⟨hr0.1,by omega,e⟩)
    refine ACalls.of tab mixed Try.call69 Try.func69 rfl (fi:=⟨105,[8],[6,41,48,80],none,[(6,[0,1,0,7,15],[(0,true),(2,true),(1,false),(3,false),(4,false)]),(8,[0,1,3,7,0,16,48,127,255,511,1023,511,2559,6655,16383,32767,65535,131071,131071,131071,655359,131071,2228223,8388607,16777215,131071,33685503,131071,134348799,503447551,1040318463,2147483647,4294967295,8589934591],[(0,false),(1,true),(2,false),(3,false),(4,false),(5,true),(6,false),(7,false),(8,false),(9,false),(10,true),(11,false),(12,true),(13,false),(14,false),(15,false),(16,false),(17,true),(18,true),(19,false),(20,true),(21,false),(22,true),(25,false),(26,true),(27,false),(28,true),(29,false),(30,true),(23,false),(24,false),(31,false),(32,false),(33,false)]),(10,[0,1,3,7,0,16,48,127,255,511,1023,2047,4095,8191,16383,32767,65535,65535,65535,327679,983039,2097151,4194303,8388607,16777215,16777215,16777215,83886079,251658239,536870911,1073741823,2147483647],[(0,false),(1,true),(2,false),(3,false),(4,false),(5,true),(6,false),(7,false),(8,false),(9,false),(10,true),(11,false),(12,true),(13,false),(14,false),(15,false),(16,true),(17,true),(18,false),(19,true),(20,false),(21,false),(22,false),(23,false),(24,true),(25,true),(26,false),(27,true),(28,false),(29,false),(30,false),(31,false)])]⟩) rfl rfl (Nat.le_of_ble_eq_true rfl) (by decide) ?_
    unfold startA
    unfold Tw.cells
    repeat' (first|refine st_seq_reg rfl (by first|(simp only[go_sem,length_map,hb,hr,d3,d2,d1,Nat.zero_add,hz];rfl)|rfl) (by first|(simp only[go_sem,length_map,hb,hr,d3,d2,d1,Nat.zero_add,hz];rfl)|rfl) ?_|refine st_seq_draw rfl (by first|(simp only[go_sem,length_map,hb,hr,d3,d2,d1,Nat.zero_add,hz];rfl)|rfl) (by first|(simp only[go_sem,length_map,hb,hr,d3,d2,d1,Nat.zero_add,hz];rfl)|rfl) ?_|refine st_op ?_|refine st_det rfl (by simp (disch:=omega) only[go_sem,wr_i64,if_yes,if_no,↓reduceIte,reduceAdd,reduceMul,reduceEqDiff,Nat.reduceBEq,reduceLeDiff,length_map,hb,hr,d3,d2,d1,Nat.zero_add,hz];rfl) ?_|refine st_dop rfl ?_|refine st_loc rfl (by simp (disch:=omega) only[go_sem,wr_i64,if_yes,if_no,↓reduceIte,reduceAdd,reduceMul,reduceEqDiff,Nat.reduceBEq,reduceLeDiff,length_map,hb,hr,d3,d2,d1,Nat.zero_add,hz];rfl) ?_|refine st_store (by simp (disch:=omega) only[go_sem,wr_i64,if_yes,if_no,↓reduceIte,reduceAdd,reduceMul,reduceEqDiff,Nat.reduceBEq,reduceLeDiff,length_map,hb,hr,d3,d2,d1,Nat.zero_add,hz];rfl) ?_|(refine st_pureE (by first|(simp (disch:=omega) only[go_sem,length_map,hb,hr,d3,d2,d1,Nat.zero_add,hz];rfl)|rfl) rfl (k68) (by first|(simp only[go_sem,length_map,hb,hr,d3,d2,d1,Nat.zero_add,hz];rfl)|rfl) (by intro n;first|(simp (disch:=omega) only[go_sem];rfl)|rfl) ?_;intro n hn)|refine st_dgT rfl rfl rfl rfl ?_|refine st_dgF rfl rfl rfl ?_|refine st_condT rfl ?_|refine st_condF rfl ?_|(refine st_condS rfl ?_ ?_ <;> intro hg <;> (try simp only[decide_eq_true_eq,decide_eq_false_iff_not,Bool.not_eq_true',Bool.not_eq_false'] at hg))|refine st_nil ?_|refine st_dnil ?_|refine st_tN ?_|refine st_seq ?_|refine st_block ?_|refine st_skip ?_|refine st_ret ?_|refine st_tR ?_|refine st_bR ?_)
    all_goals try (exfalso;omega)
    simp (disch:=omega) only[AEnd,Try.results69,aresK,fin,go_sem,↓reduceIte,reduceEqDiff,reduceAdd,reduceLeDiff,if_yes,if_no,implies_true,true_and,and_true,List.reverse_cons,List.reverse_nil]
    first
      | exact ⟨by omega,fun b' q _=>if_neg q,i+1,hlt,rfl,.inr ⟨rfl,hP⟩⟩
      | exact ⟨by omega,fun b' q _=>if_neg q,i+1,hlt,rfl,.inr hP⟩
  · have k68:Pure Try.prog 68 [.int .i64 0,.int .i64 (t.sts.length - 1:Int),.lst 1 [[.int .i64 r.st]]] (fun v=>v=.bool false):=by
      have k:=c68a 0 (t.sts.length - 1:Int) r.st
      rw [decide_eq_false hr0] at k;exact k
    refine ACalls.of tab mixed Try.call69 Try.func69 rfl (fi:=⟨105,[8],[6,41,48,80],none,[(6,[0,1,0,7,15],[(0,true),(2,true),(1,false),(3,false),(4,false)]),(8,[0,1,3,7,0,16,48,127,255,511,1023,511,2559,6655,16383,32767,65535,131071,131071,131071,655359,131071,2228223,8388607,16777215,131071,33685503,131071,134348799,503447551,1040318463,2147483647,4294967295,8589934591],[(0,false),(1,true),(2,false),(3,false),(4,false),(5,true),(6,false),(7,false),(8,false),(9,false),(10,true),(11,false),(12,true),(13,false),(14,false),(15,false),(16,false),(17,true),(18,true),(19,false),(20,true),(21,false),(22,true),(25,false),(26,true),(27,false),(28,true),(29,false),(30,true),(23,false),(24,false),(31,false),(32,false),(33,false)]),(10,[0,1,3,7,0,16,48,127,255,511,1023,2047,4095,8191,16383,32767,65535,65535,65535,327679,983039,2097151,4194303,8388607,16777215,16777215,16777215,83886079,251658239,536870911,1073741823,2147483647],[(0,false),(1,true),(2,false),(3,false),(4,false),(5,true),(6,false),(7,false),(8,false),(9,false),(10,true),(11,false),(12,true),(13,false),(14,false),(15,false),(16,true),(17,true),(18,false),(19,true),(20,false),(21,false),(22,false),(23,false),(24,true),(25,true),(26,false),(27,true),(28,false),(29,false),(30,false),(31,false)])]⟩) rfl rfl (Nat.le_of_ble_eq_true rfl) (by decide) ?_
    unfold startA
    unfold Tw.cells
    repeat' (first|refine st_seq_reg rfl (by first|(simp only[go_sem,length_map,hb,hr,d3,d2,d1,Nat.zero_add];rfl)|rfl) (by first|(simp only[go_sem,length_map,hb,hr,d3,d2,d1,Nat.zero_add];rfl)|rfl) ?_|refine st_seq_draw rfl (by first|(simp only[go_sem,length_map,hb,hr,d3,d2,d1,Nat.zero_add];rfl)|rfl) (by first|(simp only[go_sem,length_map,hb,hr,d3,d2,d1,Nat.zero_add];rfl)|rfl) ?_|refine st_op ?_|refine st_det rfl (by simp (disch:=omega) only[go_sem,wr_i64,if_yes,if_no,↓reduceIte,reduceAdd,reduceMul,reduceEqDiff,Nat.reduceBEq,reduceLeDiff,length_map,hb,hr,d3,d2,d1,Nat.zero_add];rfl) ?_|refine st_dop rfl ?_|refine st_loc rfl (by simp (disch:=omega) only[go_sem,wr_i64,if_yes,if_no,↓reduceIte,reduceAdd,reduceMul,reduceEqDiff,Nat.reduceBEq,reduceLeDiff,length_map,hb,hr,d3,d2,d1,Nat.zero_add];rfl) ?_|refine st_store (by simp (disch:=omega) only[go_sem,wr_i64,if_yes,if_no,↓reduceIte,reduceAdd,reduceMul,reduceEqDiff,Nat.reduceBEq,reduceLeDiff,length_map,hb,hr,d3,d2,d1,Nat.zero_add];rfl) ?_|(refine st_pureE (by first|(simp (disch:=omega) only[go_sem,length_map,hb,hr,d3,d2,d1,Nat.zero_add];rfl)|rfl) rfl (k68) (by first|(simp only[go_sem,length_map,hb,hr,d3,d2,d1,Nat.zero_add];rfl)|rfl) (by intro n;first|(simp (disch:=omega) only[go_sem];rfl)|rfl) ?_;intro n hn)|refine st_dgF rfl rfl rfl ?_|refine st_condT rfl ?_|refine st_condF rfl ?_|(refine st_condS rfl ?_ ?_ <;> intro hg <;> (try simp only[decide_eq_true_eq,decide_eq_false_iff_not,Bool.not_eq_true',Bool.not_eq_false'] at hg))|refine st_nil ?_|refine st_dnil ?_|refine st_tN ?_|refine st_seq ?_|refine st_block ?_|refine st_skip ?_|refine st_ret ?_|refine st_tR ?_|refine st_bR ?_)
    all_goals try (exfalso;omega)
    simp (disch:=omega) only[AEnd,Try.results69,aresK,fin,go_sem,↓reduceIte,reduceEqDiff,reduceAdd,reduceLeDiff,if_yes,if_no,implies_true,true_and,and_true,List.reverse_cons,List.reverse_nil]
    first
      | exact ⟨by omega,fun b' q _=>if_neg q,i+1,hlt,rfl,.inr ⟨rfl,hP⟩⟩
      | exact ⟨by omega,fun b' q _=>if_neg q,i+1,hlt,rfl,.inr hP⟩
theorem w69_split (t:Tw) (most:Int) (p:List Rn) (b:Nat × Nat) (k d:Nat) (s:List Int) (i:Nat) (h:AH) (hT:TwOk t) (hp:p.length≤1000000) (hsl:s.length=t.sts.length) (hb:h.at_ b=some ⟨1,[[.int .i64 (i:Nat)]]⟩) (hlt:i < p.length) (h3:¬ rn p i=⟨3,0,0,0⟩) (h2:¬ ((rn p i).kind=2∧(rn p i).st=0)) (h1:(rn p i).kind=1∧(rn p i).sq=0∧(rn p i).step=0) (hc:0≤(rn p i).st∧(rn p i).st < t.sts.length∧elt s (rn p i).st.toNat=0) (hbc:b.1 < h.clk)
    (ih:∀ (v:Int) (j:Nat) (g:AH),v ≠ 0→j≤p.length→g.at_ b=some ⟨1,[[.int .i64 (j:Nat)]]⟩→b.1 < g.clk→W69 t most p b k d (s.set (rn p i).st.toNat v) j g):W69 t most p b (k+1) (d+1) s i h:=by
  have hsn:=hT.sn
  have hdr:p.drop i=rn p i :: p.drop (i+1):=drop_getD _ hlt
  unfold W69
  rw [hdr]
  generalize hr:rn p i=r at *
  unfold W69 at ih
  have hP:pvd t most (k+1) s (r :: p.drop (i+1))=match pvd t most k (s.set r.st.toNat 1) (p.drop (i+1)) with
      | none=>none
      | some r2=>pvd t most k (s.set r.st.toNat 2) r2:=by
    show (if r=⟨3,0,0,0⟩ then _ else if _ then _ else if _ then (if _ then _ else _) else _)=_;rw [if_neg h3,if_neg h2,if_pos h1,if_pos hc];rfl
  have d3:decide ([(IntKind.i64,r.kind),(.i64,r.st),(.i64,r.sq),(.i64,r.step)]=[(IntKind.i64,(3:Int)),(.i64,0),(.i64,0),(.i64,0)])=false:=decide_eq_false (fun e=>h3 ((rn_eq3 r).1 e))
  have d2:decide ([(IntKind.i64,r.kind),(.i64,r.st),(.i64,r.sq),(.i64,r.step)]=[(IntKind.i64,(2:Int)),(.i64,0),(.i64,r.sq),(.i64,r.step)])=false:=decide_eq_false (fun e=>h2 ((rn_eq2 r).1 e))
  have d1:decide ([(IntKind.i64,r.kind),(.i64,r.st),(.i64,r.sq),(.i64,r.step)]=[(IntKind.i64,(1:Int)),(.i64,r.st),(.i64,0),(.i64,0)])=true:=decide_eq_true ((rn_eq1 r).2 h1)
  have hx:r.st.toNat < s.length:=by omega
  have w1:=c72 (elt s) r.st 1 ⟨hc.1,by omega⟩
  have w2:=c72 (elt s) r.st 2 ⟨hc.1,by omega⟩
  rw [← elt_set s _ 1 hx] at w1
  rw [← elt_set s _ 2 hx] at w2
  have k68:Pure Try.prog 68 [.int .i64 0,.int .i64 (t.sts.length - 1:Int),.lst 1 [[.int .i64 r.st]]] (fun v=>v=.bool true):=by
    have k:=c68a 0 (t.sts.length - 1:Int) r.st
    rw [decide_eq_true (by omega)] at k;exact k
  have hz:decide (elt s r.st.toNat=0)=true:=decide_eq_true hc.2.2
  have i1:=ih 1 (i+1)
  refine ACalls.of tab mixed Try.call69 Try.func69 rfl (fi:=⟨105,[8],[6,41,48,80],none,[(6,[0,1,0,7,15],[(0,true),(2,true),(1,false),(3,false),(4,false)]),(8,[0,1,3,7,0,16,48,127,255,511,1023,511,2559,6655,16383,32767,65535,131071,131071,131071,655359,131071,2228223,8388607,16777215,131071,33685503,131071,134348799,503447551,1040318463,2147483647,4294967295,8589934591],[(0,false),(1,true),(2,false),(3,false),(4,false),(5,true),(6,false),(7,false),(8,false),(9,false),(10,true),(11,false),(12,true),(13,false),(14,false),(15,false),(16,false),(17,true),(18,true),(19,false),(20,true),(21,false),(22,true),(25,false),(26,true),(27,false),(28,true),(29,false),(30,true),(23,false),(24,false),(31,false),(32,false),(33,false)]),(10,[0,1,3,7,0,16,48,127,255,511,1023,2047,4095,8191,16383,32767,65535,65535,65535,327679,983039,2097151,4194303,8388607,16777215,16777215,16777215,83886079,251658239,536870911,1073741823,2147483647],[(0,false),(1,true),(2,false),(3,false),(4,false),(5,true),(6,false),(7,false),(8,false),(9,false),(10,true),(11,false),(12,true),(13,false),(14,false),(15,false),(16,true),(17,true),(18,false),(19,true),(20,false),(21,false),(22,false),(23,false),(24,true),(25,true),(26,false),(27,true),(28,false),(29,false),(30,false),(31,false)])]⟩) rfl rfl (Nat.le_of_ble_eq_true rfl) (by decide) ?_
  unfold startA
  unfold Tw.cells
  simp only[go_sem]
  repeat' (first|refine st_seq_reg rfl (by first|(simp only[go_sem,length_map,hb,hr,d3,d2,d1,Nat.zero_add,hz];rfl)|rfl) (by first|(simp only[go_sem,length_map,hb,hr,d3,d2,d1,Nat.zero_add,hz];rfl)|rfl) ?_|refine st_seq_draw rfl (by first|(simp only[go_sem,length_map,hb,hr,d3,d2,d1,Nat.zero_add,hz];rfl)|rfl) (by first|(simp only[go_sem,length_map,hb,hr,d3,d2,d1,Nat.zero_add,hz];rfl)|rfl) ?_|refine st_op ?_|refine st_det rfl (by simp (disch:=omega) only[go_sem,wr_i64,if_yes,if_no,↓reduceIte,reduceAdd,reduceMul,reduceEqDiff,Nat.reduceBEq,reduceLeDiff,length_map,hb,hr,d3,d2,d1,Nat.zero_add,hz];rfl) ?_|refine st_dop rfl ?_|refine st_loc rfl (by simp (disch:=omega) only[go_sem,wr_i64,if_yes,if_no,↓reduceIte,reduceAdd,reduceMul,reduceEqDiff,Nat.reduceBEq,reduceLeDiff,length_map,hb,hr,d3,d2,d1,Nat.zero_add,hz];rfl) ?_|refine st_store (by simp (disch:=omega) only[go_sem,wr_i64,if_yes,if_no,↓reduceIte,reduceAdd,reduceMul,reduceEqDiff,Nat.reduceBEq,reduceLeDiff,length_map,hb,hr,d3,d2,d1,Nat.zero_add,hz];rfl) ?_|(refine st_pureE (by first|(simp (disch:=omega) only[go_sem,length_map,hb,hr,d3,d2,d1,Nat.zero_add,hz];rfl)|rfl) rfl (k68) (by first|(simp only[go_sem,length_map,hb,hr,d3,d2,d1,Nat.zero_add,hz];rfl)|rfl) (by intro n;first|(simp (disch:=omega) only[go_sem];rfl)|rfl) ?_;intro n hn)|(refine st_pureE (by first|(simp (disch:=omega) only[go_sem,length_map,hb,hr,d3,d2,d1,Nat.zero_add,hz];rfl)|rfl) rfl (w1) (by first|(simp only[go_sem,length_map,hb,hr,d3,d2,d1,Nat.zero_add,hz];rfl)|rfl) (by intro n;first|(simp (disch:=omega) only[go_sem];rfl)|rfl) ?_;intro n hn)|refine st_dgT rfl rfl rfl rfl ?_|refine st_condT rfl ?_|refine st_condF rfl ?_|(refine st_condS rfl ?_ ?_ <;> intro hg <;> (try simp only[decide_eq_true_eq,decide_eq_false_iff_not,Bool.not_eq_true',Bool.not_eq_false'] at hg))|refine st_nil ?_|refine st_tN ?_|refine st_seq ?_|refine st_block ?_|refine st_skip ?_|refine st_ret ?_|refine st_tR ?_)
  all_goals try (exfalso;omega)
  have X1:∀ n:Nat,h.clk≤n→_:=fun n hn=>i1 ((h.tick n).put b (some ⟨1,[[.int .i64 ((i:Int)+1)]]⟩)) (by decide) hlt (by simp only[go_sem] <;> rfl) (by simp only[go_sem];omega)
  refine st_call (args:=[.agg (stR (elt (s.set r.st.toNat 1)))]) rfl (by first|(simp (disch:=omega) only[go_sem];rfl)|(simp (disch:=omega) only[go_sem])) rfl (X1 _ (by omega)) ?_
  rintro v g1 ⟨q1,q2,q3,i',q4,q5,(⟨rfl,q6⟩|⟨rfl,q6⟩)⟩
  all_goals simp only[go_sem] at q1 q2 q3
  · rw [q6] at hP
    dsimp only at hP
    have X2:∀ n:Nat,g1.clk≤n→_:=fun n hn=>ih 2 i' (g1.tick n) (by decide) q4 q5 (by show b.1 < n;omega)
    repeat' (first|refine st_det rfl (by simp (disch:=omega) only[go_sem,wr_i64,if_yes,if_no,↓reduceIte,reduceAdd,reduceMul,reduceEqDiff,Nat.reduceBEq,reduceLeDiff,length_map,Nat.zero_add];rfl) ?_|refine st_dop rfl ?_|(refine st_pureE (by first|(simp (disch:=omega) only[go_sem,length_map,Nat.zero_add];rfl)|rfl) rfl (w2) (by first|(simp only[go_sem,length_map,Nat.zero_add];rfl)|rfl) (by intro n;first|(simp (disch:=omega) only[go_sem];rfl)|rfl) ?_;intro n hn)|refine st_dgT rfl rfl rfl rfl ?_)
    refine st_call (args:=[.agg (stR (elt (s.set r.st.toNat 2)))]) rfl (by first|(simp (disch:=omega) only[go_sem];rfl)|(simp (disch:=omega) only[go_sem])) rfl (X2 _ (by omega)) ?_
    rintro v g2 ⟨p1,p2,p3,i2,p4,p5,p6⟩
    simp only[go_sem] at p1 p2 p3
    rcases p6 with ⟨rfl,p6⟩|⟨rfl,p6⟩
    all_goals
      repeat' (first|refine st_det rfl (by simp (disch:=omega) only[go_sem,wr_i64,if_yes,if_no,↓reduceIte,reduceAdd,reduceMul,reduceEqDiff,Nat.reduceBEq,reduceLeDiff];rfl) ?_|refine st_dop rfl ?_|refine st_dnil ?_|refine st_ret ?_|refine st_tR ?_|refine st_bR ?_)
      simp (disch:=omega) only[AEnd,Try.results69,aresK,fin,go_sem,↓reduceIte,reduceEqDiff,reduceAdd,reduceLeDiff,if_yes,if_no,implies_true,true_and,and_true,List.reverse_cons,List.reverse_nil]
      refine ⟨by omega,by rw [p2,q2],fun b' u1 u2=>?_,i2,p4,p5,?_⟩
      · rw [p3 b' u1 (by omega),q3 b' u1 (by omega),if_neg u1]
      · first|exact .inl (by rw [hP];exact p6)|exact .inr (by rw [hP];exact p6)|exact .inl ⟨rfl,by rw [hP];exact p6⟩|exact .inr ⟨rfl,by rw [hP];exact p6⟩
  · rw [q6] at hP
    dsimp only at hP
    repeat' (first|refine st_det rfl (by simp (disch:=omega) only[go_sem,wr_i64,if_yes,if_no,↓reduceIte,reduceAdd,reduceMul,reduceEqDiff,Nat.reduceBEq,reduceLeDiff];rfl) ?_|refine st_dop rfl ?_|refine st_dgF rfl rfl rfl ?_|refine st_dnil ?_|refine st_ret ?_|refine st_tR ?_|refine st_bR ?_)
    simp (disch:=omega) only[AEnd,Try.results69,aresK,fin,go_sem,↓reduceIte,reduceEqDiff,reduceAdd,reduceLeDiff,if_yes,if_no,implies_true,true_and,and_true,List.reverse_cons,List.reverse_nil]
    refine ⟨by omega,q2,fun b' u1 u2=>?_,i',q4,q5,?_⟩
    · rw [q3 b' u1 (by omega),if_neg u1]
    · first|exact .inr hP|exact .inr ⟨rfl,hP⟩
end Go.Proofs.Ythjbfdfhblloiaa
