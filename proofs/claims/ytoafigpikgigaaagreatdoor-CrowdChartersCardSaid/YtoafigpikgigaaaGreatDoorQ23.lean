/- Contracts of functions that the claim reaches: what each call gives, told in our own logic. Conditions: those of each theorem. -/
import Derived.Test.YtoafigpikgigaaaGreatDoorQ22b
open List (length_map)
set_option linter.all false
set_option linter.unusedSimpArgs false
set_option linter.unusedVariables false
namespace Go.Proofs.YtoafigpikgigaaaGreatDoor
open Go.Av
attribute [local irreducible] thenA blockA awp awpOps awpD awp1
attribute [local go_sem_proc] Nat.reduceAdd Nat.reduceMul Nat.reduceEqDiff Nat.reduceBEq Nat.reduceLeDiff
attribute [local go_sem_proc ↓] reduceIte
attribute [local go_sem] if_yes if_no
set_option maxHeartbeats 8000000
set_option maxRecDepth 20000
theorem w69_bad (t:Tw) (most:Int) (p:List Rn) (b:Nat × Nat) (k d:Nat) (s:List Int) (i:Nat) (h:AH) (hT:TwOk t) (hp:p.length≤1000000) (hsl:s.length=t.sts.length) (hb:h.at_ b=some ⟨1,[[.int .i64 (i:Nat)]]⟩) (hlt:i < p.length) (h3:¬ rn p i=⟨3,0,0,0⟩) (h2:¬ ((rn p i).kind=2∧(rn p i).st=0)) (h1:(rn p i).kind=1∧(rn p i).sq=0∧(rn p i).step=0) (hc:¬ (0≤(rn p i).st∧(rn p i).st < t.sts.length∧elt s (rn p i).st.toNat=0)):W69 t most p b (k+1) d s i h:=by
 have hsn:=hT.sn
 have hdr:p.drop i=rn p i :: p.drop (i+1):=drop_getD _ hlt
 unfold W69
 rw [hdr]
 generalize hr:rn p i=r at *
 have hP:pvd t most (k+1) s (r :: p.drop (i+1))=none:=by
  show (if r=⟨3,0,0,0⟩ then _ else if _ then _ else if _ then (if _ then _ else _) else _)=_;rw [if_neg h3,if_neg h2,if_pos h1,if_neg hc]
 have d3:decide ([(IntKind.i64,r.kind),(.i64,r.st),(.i64,r.sq),(.i64,r.step)]=[(IntKind.i64,(3:Int)),(.i64,0),(.i64,0),(.i64,0)])=false:=decide_eq_false (fun e=>h3 ((rn_eq3 r).1 e))
 have d2:decide ([(IntKind.i64,r.kind),(.i64,r.st),(.i64,r.sq),(.i64,r.step)]=[(IntKind.i64,(2:Int)),(.i64,0),(.i64,r.sq),(.i64,r.step)])=false:=decide_eq_false (fun e=>h2 ((rn_eq2 r).1 e))
 have d1:decide ([(IntKind.i64,r.kind),(.i64,r.st),(.i64,r.sq),(.i64,r.step)]=[(IntKind.i64,(1:Int)),(.i64,r.st),(.i64,0),(.i64,0)])=true:=decide_eq_true ((rn_eq1 r).2 h1)
 by_cases hr0:0≤r.st∧r.st≤(t.sts.length - 1:Int)
 ·have k68:Pure Tryz.prog 46 [.int .i64 0,.int .i64 (t.sts.length - 1:Int),.lst 1 [[.int .i64 r.st]]] (fun v=>v=.bool true):=by
   have k:=c46a 0 (t.sts.length - 1:Int) r.st
   rw [decide_eq_true hr0] at k;exact k
  have hz:decide (elt s r.st.toNat=0)=false:=decide_eq_false (fun e=>hc ⟨hr0.1,by omega,e⟩)
  refine ACalls.of tab mixed Tryz.call50 Tryz.func50 rfl (fi:=⟨105,[8],[6,41,48,80],none,[(6,[0,1,0,7,15],[(0,true),(2,true),(1,false),(3,false),(4,false)]),(8,[0,1,3,7,0,16,48,127,255,511,1023,511,2559,6655,16383,32767,65535,131071,131071,131071,655359,131071,2228223,8388607,16777215,131071,33685503,131071,134348799,503447551,1040318463,2147483647,4294967295,8589934591],[(0,false),(1,true),(2,false),(3,false),(4,false),(5,true),(6,false),(7,false),(8,false),(9,false),(10,true),(11,false),(12,true),(13,false),(14,false),(15,false),(16,false),(17,true),(18,true),(19,false),(20,true),(21,false),(22,true),(25,false),(26,true),(27,false),(28,true),(29,false),(30,true),(23,false),(24,false),(31,false),(32,false),(33,false)]),(10,[0,1,3,7,0,16,48,127,255,511,1023,2047,4095,8191,16383,32767,65535,65535,65535,327679,983039,2097151,4194303,8388607,16777215,16777215,16777215,83886079,251658239,536870911,1073741823,2147483647],[(0,false),(1,true),(2,false),(3,false),(4,false),(5,true),(6,false),(7,false),(8,false),(9,false),(10,true),(11,false),(12,true),(13,false),(14,false),(15,false),(16,true),(17,true),(18,false),(19,true),(20,false),(21,false),(22,false),(23,false),(24,true),(25,true),(26,false),(27,true),(28,false),(29,false),(30,false),(31,false)])]⟩) rfl rfl (Nat.le_of_ble_eq_true rfl) (by decide) ?_
  unfold startA
  unfold Tw.cells
  repeat' (first|refine st_seq_reg rfl (by first|(simp only[go_sem,Lm,hb,hr,d3,d2,d1,Nat.zero_add,hz];rfl)|rfl) (by first|(simp only[go_sem,Lm,hb,hr,d3,d2,d1,Nat.zero_add,hz];rfl)|rfl) ?_|refine st_seq_draw rfl (by first|(simp only[go_sem,Lm,hb,hr,d3,d2,d1,Nat.zero_add,hz];rfl)|rfl) (by first|(simp only[go_sem,Lm,hb,hr,d3,d2,d1,Nat.zero_add,hz];rfl)|rfl) ?_|refine st_op ?_|refine st_det rfl (by simp (disch:=omega) only[go_sem,wr_i64,Lm,hb,hr,d3,d2,d1,Nat.zero_add,hz];rfl) ?_|refine st_dop rfl ?_|refine st_loc rfl (by simp (disch:=omega) only[go_sem,wr_i64,Lm,hb,hr,d3,d2,d1,Nat.zero_add,hz];rfl) ?_|refine st_store (by simp (disch:=omega) only[go_sem,wr_i64,Lm,hb,hr,d3,d2,d1,Nat.zero_add,hz];rfl) ?_|(refine st_pureE (by first|(simp (disch:=omega) only[go_sem,Lm,hb,hr,d3,d2,d1,Nat.zero_add,hz];rfl)|rfl) rfl (k68) (by first|(simp only[go_sem,Lm,hb,hr,d3,d2,d1,Nat.zero_add,hz];rfl)|rfl) (by intro n;first|(simp (disch:=omega) only[go_sem];rfl)|rfl) ?_;intro n hn)|refine st_dgT rfl rfl rfl rfl ?_|refine st_dgF rfl rfl rfl ?_|refine st_condT rfl ?_|refine st_condF rfl ?_|(refine st_condS rfl ?_ ?_ <;> intro hg <;> (try simp only[dcT,dcF,bnT,bnF] at hg))|refine st_nil ?_|refine st_dnil ?_|refine st_tN ?_|refine st_seq ?_|refine st_block ?_|refine st_skip ?_|refine st_ret ?_|refine st_tR ?_|refine st_bR ?_)
  all_goals try (exfalso;omega)
  simp (disch:=omega) only[AEnd,Tryz.results50,aresK,fin,go_sem,implies_true,true_and,and_true,List.reverse_cons,List.reverse_nil]
  first
   | exact ⟨by omega,fun b' q _=>if_neg q,i+1,hlt,rfl,.inr ⟨rfl,hP⟩⟩
   | exact ⟨by omega,fun b' q _=>if_neg q,i+1,hlt,rfl,.inr hP⟩
 ·have k68:Pure Tryz.prog 46 [.int .i64 0,.int .i64 (t.sts.length - 1:Int),.lst 1 [[.int .i64 r.st]]] (fun v=>v=.bool false):=by
   have k:=c46a 0 (t.sts.length - 1:Int) r.st
   rw [decide_eq_false hr0] at k;exact k
  refine ACalls.of tab mixed Tryz.call50 Tryz.func50 rfl (fi:=⟨105,[8],[6,41,48,80],none,[(6,[0,1,0,7,15],[(0,true),(2,true),(1,false),(3,false),(4,false)]),(8,[0,1,3,7,0,16,48,127,255,511,1023,511,2559,6655,16383,32767,65535,131071,131071,131071,655359,131071,2228223,8388607,16777215,131071,33685503,131071,134348799,503447551,1040318463,2147483647,4294967295,8589934591],[(0,false),(1,true),(2,false),(3,false),(4,false),(5,true),(6,false),(7,false),(8,false),(9,false),(10,true),(11,false),(12,true),(13,false),(14,false),(15,false),(16,false),(17,true),(18,true),(19,false),(20,true),(21,false),(22,true),(25,false),(26,true),(27,false),(28,true),(29,false),(30,true),(23,false),(24,false),(31,false),(32,false),(33,false)]),(10,[0,1,3,7,0,16,48,127,255,511,1023,2047,4095,8191,16383,32767,65535,65535,65535,327679,983039,2097151,4194303,8388607,16777215,16777215,16777215,83886079,251658239,536870911,1073741823,2147483647],[(0,false),(1,true),(2,false),(3,false),(4,false),(5,true),(6,false),(7,false),(8,false),(9,false),(10,true),(11,false),(12,true),(13,false),(14,false),(15,false),(16,true),(17,true),(18,false),(19,true),(20,false),(21,false),(22,false),(23,false),(24,true),(25,true),(26,false),(27,true),(28,false),(29,false),(30,false),(31,false)])]⟩) rfl rfl (Nat.le_of_ble_eq_true rfl) (by decide) ?_
  unfold startA
  unfold Tw.cells
  repeat' (first|refine st_seq_reg rfl (by first|(simp only[go_sem,Lm,hb,hr,d3,d2,d1,Nat.zero_add];rfl)|rfl) (by first|(simp only[go_sem,Lm,hb,hr,d3,d2,d1,Nat.zero_add];rfl)|rfl) ?_|refine st_seq_draw rfl (by first|(simp only[go_sem,Lm,hb,hr,d3,d2,d1,Nat.zero_add];rfl)|rfl) (by first|(simp only[go_sem,Lm,hb,hr,d3,d2,d1,Nat.zero_add];rfl)|rfl) ?_|refine st_op ?_|refine st_det rfl (by simp (disch:=omega) only[go_sem,wr_i64,Lm,hb,hr,d3,d2,d1,Nat.zero_add];rfl) ?_|refine st_dop rfl ?_|refine st_loc rfl (by simp (disch:=omega) only[go_sem,wr_i64,Lm,hb,hr,d3,d2,d1,Nat.zero_add];rfl) ?_|refine st_store (by simp (disch:=omega) only[go_sem,wr_i64,Lm,hb,hr,d3,d2,d1,Nat.zero_add];rfl) ?_|(refine st_pureE (by first|(simp (disch:=omega) only[go_sem,Lm,hb,hr,d3,d2,d1,Nat.zero_add];rfl)|rfl) rfl (k68) (by first|(simp only[go_sem,Lm,hb,hr,d3,d2,d1,Nat.zero_add];rfl)|rfl) (by intro n;first|(simp (disch:=omega) only[go_sem];rfl)|rfl) ?_;intro n hn)|refine st_dgF rfl rfl rfl ?_|refine st_condT rfl ?_|refine st_condF rfl ?_|(refine st_condS rfl ?_ ?_ <;> intro hg <;> (try simp only[dcT,dcF,bnT,bnF] at hg))|refine st_nil ?_|refine st_dnil ?_|refine st_tN ?_|refine st_seq ?_|refine st_block ?_|refine st_skip ?_|refine st_ret ?_|refine st_tR ?_|refine st_bR ?_)
  all_goals try (exfalso;omega)
  simp (disch:=omega) only[AEnd,Tryz.results50,aresK,fin,go_sem,implies_true,true_and,and_true,List.reverse_cons,List.reverse_nil]
  first
   | exact ⟨by omega,fun b' q _=>if_neg q,i+1,hlt,rfl,.inr ⟨rfl,hP⟩⟩
   | exact ⟨by omega,fun b' q _=>if_neg q,i+1,hlt,rfl,.inr hP⟩
end Go.Proofs.YtoafigpikgigaaaGreatDoor

namespace Go.Proofs.YtoafigpikgigaaaGreatDoor
open Go.Av
attribute [local irreducible] thenA blockA awp awpOps awpD awp1
attribute [local go_sem_proc] Nat.reduceAdd Nat.reduceMul Nat.reduceEqDiff Nat.reduceBEq Nat.reduceLeDiff
attribute [local go_sem_proc ↓] reduceIte
attribute [local go_sem] if_yes if_no
set_option maxHeartbeats 8000000
set_option maxRecDepth 20000
theorem w69_split (t:Tw) (most:Int) (p:List Rn) (b:Nat × Nat) (k d:Nat) (s:List Int) (i:Nat) (h:AH) (hT:TwOk t) (hp:p.length≤1000000) (hsl:s.length=t.sts.length) (hb:h.at_ b=some ⟨1,[[.int .i64 (i:Nat)]]⟩) (hlt:i < p.length) (h3:¬ rn p i=⟨3,0,0,0⟩) (h2:¬ ((rn p i).kind=2∧(rn p i).st=0)) (h1:(rn p i).kind=1∧(rn p i).sq=0∧(rn p i).step=0) (hc:0≤(rn p i).st∧(rn p i).st < t.sts.length∧elt s (rn p i).st.toNat=0) (hbc:b.1 < h.clk)
  (ih:∀ (v:Int) (j:Nat) (g:AH),v ≠ 0→j≤p.length→g.at_ b=some ⟨1,[[.int .i64 (j:Nat)]]⟩→b.1 < g.clk→W69 t most p b k d (s.set (rn p i).st.toNat v) j g):W69 t most p b (k+1) (d+1) s i h:=by
 have hsn:=hT.sn
 have hdr:p.drop i=rn p i :: p.drop (i+1):=drop_getD _ hlt
 unfold W69
 rw [hdr]
 generalize hr:rn p i=r at *
 unfold W69 at ih
 have hP:pvd t most (k+1) s (r :: p.drop (i+1))=match pvd t most k (s.set r.st.toNat 1) (p.drop (i+1)) with
   | none=>none
   | some r2=>pvd t most k (s.set r.st.toNat 2) r2:=by
  show (if r=⟨3,0,0,0⟩ then _ else if _ then _ else if _ then (if _ then _ else _) else _)=_;rw [if_neg h3,if_neg h2,if_pos h1,if_pos hc];rfl
 have d3:decide ([(IntKind.i64,r.kind),(.i64,r.st),(.i64,r.sq),(.i64,r.step)]=[(IntKind.i64,(3:Int)),(.i64,0),(.i64,0),(.i64,0)])=false:=decide_eq_false (fun e=>h3 ((rn_eq3 r).1 e))
 have d2:decide ([(IntKind.i64,r.kind),(.i64,r.st),(.i64,r.sq),(.i64,r.step)]=[(IntKind.i64,(2:Int)),(.i64,0),(.i64,r.sq),(.i64,r.step)])=false:=decide_eq_false (fun e=>h2 ((rn_eq2 r).1 e))
 have d1:decide ([(IntKind.i64,r.kind),(.i64,r.st),(.i64,r.sq),(.i64,r.step)]=[(IntKind.i64,(1:Int)),(.i64,r.st),(.i64,0),(.i64,0)])=true:=decide_eq_true ((rn_eq1 r).2 h1)
 have hx:r.st.toNat < s.length:=by omega
 have w1:=c52 (elt s) r.st 1 ⟨hc.1,by omega⟩
 have w2:=c52 (elt s) r.st 2 ⟨hc.1,by omega⟩
 rw [← elt_set s _ 1 hx] at w1
 rw [← elt_set s _ 2 hx] at w2
 have k68:Pure Tryz.prog 46 [.int .i64 0,.int .i64 (t.sts.length - 1:Int),.lst 1 [[.int .i64 r.st]]] (fun v=>v=.bool true):=by
  have k:=c46a 0 (t.sts.length - 1:Int) r.st
  rw [decide_eq_true (by omega)] at k;exact k
 have hz:decide (elt s r.st.toNat=0)=true:=decide_eq_true hc.2.2
 have i1:=ih 1 (i+1)
 refine ACalls.of tab mixed Tryz.call50 Tryz.func50 rfl (fi:=⟨105,[8],[6,41,48,80],none,[(6,[0,1,0,7,15],[(0,true),(2,true),(1,false),(3,false),(4,false)]),(8,[0,1,3,7,0,16,48,127,255,511,1023,511,2559,6655,16383,32767,65535,131071,131071,131071,655359,131071,2228223,8388607,16777215,131071,33685503,131071,134348799,503447551,1040318463,2147483647,4294967295,8589934591],[(0,false),(1,true),(2,false),(3,false),(4,false),(5,true),(6,false),(7,false),(8,false),(9,false),(10,true),(11,false),(12,true),(13,false),(14,false),(15,false),(16,false),(17,true),(18,true),(19,false),(20,true),(21,false),(22,true),(25,false),(26,true),(27,false),(28,true),(29,false),(30,true),(23,false),(24,false),(31,false),(32,false),(33,false)]),(10,[0,1,3,7,0,16,48,127,255,511,1023,2047,4095,8191,16383,32767,65535,65535,65535,327679,983039,2097151,4194303,8388607,16777215,16777215,16777215,83886079,251658239,536870911,1073741823,2147483647],[(0,false),(1,true),(2,false),(3,false),(4,false),(5,true),(6,false),(7,false),(8,false),(9,false),(10,true),(11,false),(12,true),(13,false),(14,false),(15,false),(16,true),(17,true),(18,false),(19,true),(20,false),(21,false),(22,false),(23,false),(24,true),(25,true),(26,false),(27,true),(28,false),(29,false),(30,false),(31,false)])]⟩) rfl rfl (Nat.le_of_ble_eq_true rfl) (by decide) ?_
 unfold startA
 unfold Tw.cells
 simp only[go_sem]
 repeat' (first|refine st_seq_reg rfl (by first|(simp only[go_sem,Lm,hb,hr,d3,d2,d1,Nat.zero_add,hz];rfl)|rfl) (by first|(simp only[go_sem,Lm,hb,hr,d3,d2,d1,Nat.zero_add,hz];rfl)|rfl) ?_|refine st_seq_draw rfl (by first|(simp only[go_sem,Lm,hb,hr,d3,d2,d1,Nat.zero_add,hz];rfl)|rfl) (by first|(simp only[go_sem,Lm,hb,hr,d3,d2,d1,Nat.zero_add,hz];rfl)|rfl) ?_|refine st_op ?_|refine st_det rfl (by simp (disch:=omega) only[go_sem,wr_i64,Lm,hb,hr,d3,d2,d1,Nat.zero_add,hz];rfl) ?_|refine st_dop rfl ?_|refine st_loc rfl (by simp (disch:=omega) only[go_sem,wr_i64,Lm,hb,hr,d3,d2,d1,Nat.zero_add,hz];rfl) ?_|refine st_store (by simp (disch:=omega) only[go_sem,wr_i64,Lm,hb,hr,d3,d2,d1,Nat.zero_add,hz];rfl) ?_|(refine st_pureE (by first|(simp (disch:=omega) only[go_sem,Lm,hb,hr,d3,d2,d1,Nat.zero_add,hz];rfl)|rfl) rfl (k68) (by first|(simp only[go_sem,Lm,hb,hr,d3,d2,d1,Nat.zero_add,hz];rfl)|rfl) (by intro n;first|(simp (disch:=omega) only[go_sem];rfl)|rfl) ?_;intro n hn)|(refine st_pureE (by first|(simp (disch:=omega) only[go_sem,Lm,hb,hr,d3,d2,d1,Nat.zero_add,hz];rfl)|rfl) rfl (w1) (by first|(simp only[go_sem,Lm,hb,hr,d3,d2,d1,Nat.zero_add,hz];rfl)|rfl) (by intro n;first|(simp (disch:=omega) only[go_sem];rfl)|rfl) ?_;intro n hn)|refine st_dgT rfl rfl rfl rfl ?_|refine st_condT rfl ?_|refine st_condF rfl ?_|(refine st_condS rfl ?_ ?_ <;> intro hg <;> (try simp only[dcT,dcF,bnT,bnF] at hg))|refine st_nil ?_|refine st_tN ?_|refine st_seq ?_|refine st_block ?_|refine st_skip ?_|refine st_ret ?_|refine st_tR ?_)
 all_goals try (exfalso;omega)
 have X1:∀ n:Nat,h.clk≤n→_:=fun n hn=>i1 ((h.tick n).put b (some ⟨1,[[.int .i64 ((i:Int)+1)]]⟩)) (by decide) hlt (by simp only[go_sem] <;> rfl) (by simp only[go_sem];omega)
 refine st_call (args:=[.agg (stR (elt (s.set r.st.toNat 1)))]) rfl (by first|(simp (disch:=omega) only[go_sem];rfl)|(simp (disch:=omega) only[go_sem])) rfl (X1 _ (by omega)) ?_
 rintro v g1 ⟨q1,q2,q3,i',q4,q5,(⟨rfl,q6⟩|⟨rfl,q6⟩)⟩
 all_goals simp only[go_sem] at q1 q2 q3
 ·rw [q6] at hP
  dsimp only at hP
  have X2:∀ n:Nat,g1.clk≤n→_:=fun n hn=>ih 2 i' (g1.tick n) (by decide) q4 q5 (by show b.1 < n;omega)
  repeat' (first|refine st_det rfl (by simp (disch:=omega) only[go_sem,wr_i64,Lm,Nat.zero_add];rfl) ?_|refine st_dop rfl ?_|(refine st_pureE (by first|(simp (disch:=omega) only[go_sem,Lm,Nat.zero_add];rfl)|rfl) rfl (w2) (by first|(simp only[go_sem,Lm,Nat.zero_add];rfl)|rfl) (by intro n;first|(simp (disch:=omega) only[go_sem];rfl)|rfl) ?_;intro n hn)|refine st_dgT rfl rfl rfl rfl ?_)
  refine st_call (args:=[.agg (stR (elt (s.set r.st.toNat 2)))]) rfl (by first|(simp (disch:=omega) only[go_sem];rfl)|(simp (disch:=omega) only[go_sem])) rfl (X2 _ (by omega)) ?_
  rintro v g2 ⟨p1,p2,p3,i2,p4,p5,p6⟩
  simp only[go_sem] at p1 p2 p3
  rcases p6 with ⟨rfl,p6⟩|⟨rfl,p6⟩
  all_goals
   repeat' (first|refine st_det rfl (by simp (disch:=omega) only[go_sem,wr_i64];rfl) ?_|refine st_dop rfl ?_|refine st_dnil ?_|refine st_ret ?_|refine st_tR ?_|refine st_bR ?_)
   simp (disch:=omega) only[AEnd,Tryz.results50,aresK,fin,go_sem,implies_true,true_and,and_true,List.reverse_cons,List.reverse_nil]
   refine ⟨by omega,by rw [p2,q2],fun b' u1 u2=>?_,i2,p4,p5,?_⟩
   ·rw [p3 b' u1 (by omega),q3 b' u1 (by omega),if_neg u1]
   ·first|exact .inl (by rw [hP];exact p6)|exact .inr (by rw [hP];exact p6)|exact .inl ⟨rfl,by rw [hP];exact p6⟩|exact .inr ⟨rfl,by rw [hP];exact p6⟩
 ·rw [q6] at hP
  dsimp only at hP
  repeat' (first|refine st_det rfl (by simp (disch:=omega) only[go_sem,wr_i64];rfl) ?_|refine st_dop rfl ?_|refine st_dgF rfl rfl rfl ?_|refine st_dnil ?_|refine st_ret ?_|refine st_tR ?_|refine st_bR ?_)
  simp (disch:=omega) only[AEnd,Tryz.results50,aresK,fin,go_sem,implies_true,true_and,and_true,List.reverse_cons,List.reverse_nil]
  refine ⟨by omega,q2,fun b' u1 u2=>?_,i',q4,q5,?_⟩
  ·rw [q3 b' u1 (by omega),if_neg u1]
  ·first|exact .inr hP|exact .inr ⟨rfl,hP⟩
end Go.Proofs.YtoafigpikgigaaaGreatDoor

namespace Go.Proofs.YtoafigpikgigaaaGreatDoor
open Go.Av
attribute [local irreducible] thenA blockA awp awpOps awpD awp1
attribute [local go_sem_proc] Nat.reduceAdd Nat.reduceMul Nat.reduceEqDiff Nat.reduceBEq Nat.reduceLeDiff
attribute [local go_sem_proc ↓] reduceIte
attribute [local go_sem] if_yes if_no
set_option maxHeartbeats 8000000
set_option maxRecDepth 20000
theorem c50 (t:Tw) (most:Int) (p:List Rn) (b:Nat × Nat) (hT:TwOk t) (hp:p.length≤1000000):∀ (k d:Nat),k≤d→∀ (s:List Int) (i:Nat) (h:AH),s.length=t.sts.length→cntZ s < k→i≤p.length→h.at_ b=some ⟨1,[[.int .i64 (i:Nat)]]⟩→b.1 < h.clk→W69 t most p b k d s i h:=by
 intro k
 induction k with
 | zero=>intro d _ s i h _ hc;exact absurd hc (Nat.not_lt_zero _)
 | succ k ih =>
  rintro d hd s i h hsl hcz hi hb hbc
  by_cases hlt:i < p.length
  case neg=>exact w69_end t most p b k d s i h hT hp hsl hb (by omega)
  by_cases h3:rn p i=⟨3,0,0,0⟩
  ·exact w69_many t most p b k d s i h hT hp hsl hb hlt h3
  by_cases h2:(rn p i).kind=2∧(rn p i).st=0
  ·exact w69_full t most p b k d s i h hT hp hsl hb hlt h3 h2
  by_cases h1:(rn p i).kind=1∧(rn p i).sq=0∧(rn p i).step=0
  case neg=>exact w69_none t most p b k d s i h hT hp hsl hb hlt h3 h2 h1
  by_cases hc:0≤(rn p i).st∧(rn p i).st < t.sts.length∧elt s (rn p i).st.toNat=0
  case neg=>exact w69_bad t most p b k d s i h hT hp hsl hb hlt h3 h2 h1 hc
  obtain ⟨d,rfl⟩:∃ d',d=d'+1:=⟨d - 1,by omega⟩
  have hx:(rn p i).st.toNat < s.length:=by omega
  exact w69_split t most p b k d s i h hT hp hsl hb hlt h3 h2 h1 hc hbc fun v j g hv hj hg hgc=>ih d (by omega) _ j g (by rw [List.length_set];exact hsl) (by have:=cntZ_set s _ v hx hc.2.2 hv;omega) hj hg hgc
def provedB (t:Tw) (most:Int) (p:List Rn):Bool:=decide (pvd t most (t.sts.length+1) (List.replicate t.sts.length 0) p=some [])
def provedV (t:Tw) (most:Int) (p:List Rn):AV:=if chkE t ≠ 0 then .tup [.bool false,.int .i64 (chkE t)] else if ¬ (0≤most∧most≤12) then .tup [.bool false,.int .i64 2] else .tup [.bool (provedB t most p),.int .i64 0]
theorem cntZ_rep:∀ n,cntZ (List.replicate n 0)=n:=fun n=>by unfold cntZ;rw [List.countP_replicate];simp
theorem stR_zero (n:Nat):[AV.int .i64 0,.int .i64 0,.int .i64 0,.int .i64 0,.int .i64 0,.int .i64 0,.int .i64 0,.int .i64 0,.int .i64 0,.int .i64 0,.int .i64 0,.int .i64 0]=stR (elt (List.replicate n 0)):=by
 have:stR (elt (List.replicate n 0))=stR (fun _=>0):=stR_ext fun i _=>by
  unfold elt;rw [List.getD_eq_getElem?_getD,List.getElem?_replicate];split <;> rfl
 rw [this];rfl
theorem c19 (t:Tw) (most:Int) (p:List Rn) (hp:p.length≤1000000):Pure Tryz.prog 19 [t.av,.int .i64 most,.lst 4 (p.map Rn.row)] (fun v=>v=provedV t most p):=by
 have k51:=c32 t
 have k68:=c46a 0 12 most
 intro h
 by_cases h0:chkE t=0
 case neg =>
  refine ACalls.forget (ACalls.of tab mixed Tryz.call19 Tryz.func19 rfl (fi:=⟨30,[],[3,4,5,17],none,[]⟩) rfl rfl (Nat.le_of_ble_eq_true rfl) (by decide) ?_)
  unfold startA
  simp only[go_sem]
  repeat' (first|refine st_seq_reg rfl (by first|(simp only[go_sem];rfl)|rfl) (by first|(simp only[go_sem];rfl)|rfl) ?_|refine st_op ?_|refine st_det rfl (by simp (disch:=omega) only[go_sem,wr_i64];rfl) ?_|(refine st_pureE (by first|(simp (disch:=omega) only[go_sem];rfl)|rfl) rfl (k51) (by first|(simp only[go_sem];rfl)|rfl) (by intro n;first|(simp (disch:=omega) only[go_sem];rfl)|rfl) ?_;intro n hn)|(refine st_condS rfl ?_ ?_ <;> intro hg <;> (try simp only[dcT,dcF,bnT,bnF] at hg))|refine st_nil ?_|refine st_tN ?_|refine st_seq ?_|refine st_skip ?_|refine st_ret ?_|refine st_tR ?_)
  all_goals try (exfalso;omega)
  simp (disch:=omega) only[AEnd,Tryz.results19,aresK,fin,go_sem,implies_true,true_and,and_true,List.reverse_cons,List.reverse_nil]
  unfold provedV;rw [if_pos h0]
 rw [h0] at k51
 have hT:=townOk h0
 have hsn:=hT.sn
 by_cases h1:0≤most∧most≤12
 case neg =>
  rw [decide_eq_false h1] at k68
  refine ACalls.forget (ACalls.of tab mixed Tryz.call19 Tryz.func19 rfl (fi:=⟨30,[],[3,4,5,17],none,[]⟩) rfl rfl (Nat.le_of_ble_eq_true rfl) (by decide) ?_)
  unfold startA
  simp only[go_sem]
  repeat' (first|refine st_seq_reg rfl (by first|(simp only[go_sem];rfl)|rfl) (by first|(simp only[go_sem];rfl)|rfl) ?_|refine st_op ?_|refine st_det rfl (by simp (disch:=omega) only[go_sem,wr_i64];rfl) ?_|(refine st_pureE (by first|(simp (disch:=omega) only[go_sem];rfl)|rfl) rfl (k51) (by first|(simp only[go_sem];rfl)|rfl) (by intro n;first|(simp (disch:=omega) only[go_sem];rfl)|rfl) ?_;intro n hn)|(refine st_pureE (by first|(simp (disch:=omega) only[go_sem];rfl)|rfl) rfl (k68) (by first|(simp only[go_sem];rfl)|rfl) (by intro n;first|(simp (disch:=omega) only[go_sem];rfl)|rfl) ?_;intro n hn)|refine st_condT rfl ?_|refine st_condF rfl ?_|refine st_nil ?_|refine st_tN ?_|refine st_seq ?_|refine st_skip ?_|refine st_ret ?_|refine st_tR ?_)
  all_goals try (exfalso;omega)
  simp (disch:=omega) only[AEnd,Tryz.results19,aresK,fin,go_sem,implies_true,true_and,and_true,List.reverse_cons,List.reverse_nil]
  unfold provedV;rw [if_neg (fun e=>e h0),if_pos h1]
 rw [decide_eq_true h1] at k68
 have hE:provedV t most p=.tup [.bool (provedB t most p),.int .i64 0]:=by
  unfold provedV;rw [if_neg (fun e=>e h0),if_neg (fun e=>e h1)]
 have hz:=stR_zero t.sts.length
 obtain ⟨d,hd⟩:∃ d,13≤d:=⟨13,Nat.le_refl _⟩
 refine ACalls.forget ?_
 refine ACalls.ofS tab Tryz.call19 Tryz.func19 rfl (fi:=⟨30,[],[3,4,5,17],none,[]⟩) rfl rfl (Nat.le_of_ble_eq_true rfl) ?_
 unfold startA
 refine asem_seq (fi:=⟨30,[],[3,4,5,17],none,[]⟩) tab mixed (by decide) ?_
 repeat' (first|refine st_reg rfl (by first|(simp only[go_sem];rfl)|rfl) (by first|(simp only[go_sem];rfl)|rfl) ?_|refine st_op ?_|refine st_det rfl (by simp (disch:=omega) only[go_sem,wr_i64];rfl) ?_|refine st_nil ?_|refine st_tN ?_)
 refine asem_seq (fi:=⟨30,[],[3,4,5,17],none,[]⟩) tab mixed (by decide) ?_
 repeat' (first|refine st_seq_reg rfl (by first|(simp only[go_sem];rfl)|rfl) (by first|(simp only[go_sem];rfl)|rfl) ?_|refine st_op ?_|refine st_det rfl (by simp (disch:=omega) only[go_sem,wr_i64];rfl) ?_|(refine st_pureE (by first|(simp (disch:=omega) only[go_sem];rfl)|rfl) rfl (k51) (by first|(simp only[go_sem];rfl)|rfl) (by intro n;first|(simp (disch:=omega) only[go_sem];rfl)|rfl) ?_;intro n hn)|refine st_condF rfl ?_|refine st_nil ?_|refine st_tN ?_|refine st_skip ?_)
 all_goals try (exfalso;omega)
 simp only[go_sem]
 refine asem_seq (fi:=⟨30,[],[3,4,5,17],none,[]⟩) tab mixed (by decide) ?_
 repeat' (first|refine st_seq_reg rfl (by first|(simp only[go_sem];rfl)|rfl) (by first|(simp only[go_sem];rfl)|rfl) ?_|refine st_op ?_|refine st_det rfl (by simp (disch:=omega) only[go_sem,wr_i64];rfl) ?_|(refine st_pureE (by first|(simp (disch:=omega) only[go_sem];rfl)|rfl) rfl (k68) (by first|(simp only[go_sem];rfl)|rfl) (by intro n;first|(simp (disch:=omega) only[go_sem];rfl)|rfl) ?_;intro n hn)|refine st_condF rfl ?_|refine st_nil ?_|refine st_tN ?_|refine st_skip ?_)
 refine asem_seq (fi:=⟨30,[],[3,4,5,17],none,[]⟩) tab mixed (by decide) ?_
 repeat' (first|refine st_reg rfl (by first|(simp only[go_sem];rfl)|rfl) (by first|(simp only[go_sem];rfl)|rfl) ?_|refine st_op ?_|refine st_heap rfl (by simp (disch:=omega) only[go_sem,wr_i64];rfl) ?_|refine st_store (by simp (disch:=omega) only[go_sem,wr_i64];rfl) ?_|refine st_nil ?_|refine st_tN ?_)
 refine asem_seq (fi:=⟨30,[],[3,4,5,17],none,[]⟩) tab mixed (by decide) ?_
 repeat' (first|refine st_reg rfl (by first|(simp only[go_sem];rfl)|rfl) (by first|(simp only[go_sem];rfl)|rfl) ?_|refine st_op ?_|refine st_heap rfl (by simp (disch:=omega) only[go_sem,wr_i64];rfl) ?_|refine st_nil ?_|refine st_tN ?_)
 refine asem_seq (fi:=⟨30,[],[3,4,5,17],none,[]⟩) tab mixed (by decide) ?_
 repeat' (first|refine st_reg rfl (by first|(simp only[go_sem];rfl)|rfl) (by first|(simp only[go_sem];rfl)|rfl) ?_|refine st_op ?_|refine st_det rfl (by simp (disch:=omega) only[go_sem,wr_i64];rfl) ?_|refine st_store (by simp (disch:=omega) only[go_sem,wr_i64];rfl) ?_|refine st_nil ?_|refine st_tN ?_)
 refine ASem.knot (g:=.func 50) (cap:=pcap (n,9) t most p) 10 (d+1) rfl (by simp only[go_sem,↓reduceIte];rfl) ?_
 refine asem_awp (fi:=⟨30,[],[3,4,5,17],none,[]⟩) tab mixed (by decide) ?_
 simp only[go_sem]
 have hc:=c50 t most p (n,9) hT hp (t.sts.length+1) d (by omega) (List.replicate t.sts.length 0) 0 (((h.tick (n+1+1+1+1)).put (n,9) (some ⟨1,[[.int .i64 0]]⟩)).put (n+1,10) none) (by simp) (by rw [cntZ_rep];omega) (Nat.zero_le _) (by simp only[go_sem,Nat.reduceEqDiff,and_false,↓reduceIte] <;> rfl) (by show n < n+1+1+1+1;omega)
 unfold W69 at hc
 rw [List.drop_zero] at hc
 repeat' (first|refine st_seq_reg rfl (by first|(simp only[go_sem,hz,Lm];rfl)|rfl) (by first|(simp only[go_sem,hz,Lm];rfl)|rfl) ?_|refine st_op ?_|refine st_det rfl (by simp (disch:=omega) only[go_sem,wr_i64,hz,Lm];rfl) ?_|(refine st_call (args:=[.agg (stR (elt (List.replicate t.sts.length 0)))]) rfl (by first|(simp (disch:=omega) only[go_sem,hz];rfl)|(simp (disch:=omega) only[go_sem,hz])) rfl hc ?_;rintro v g1 ⟨q1,q2,q3,i',q4,q5,(⟨rfl,q6⟩|⟨rfl,q6⟩)⟩)|refine st_gT rfl rfl rfl ?_|refine st_gF rfl rfl rfl ?_|refine st_nil ?_|refine st_ret ?_)
 all_goals simp only[go_sem] at q1 q2 q3
 have hold:∀ b':Bid,b'.1 < h.clk→g1.at_ b'=h.at_ b':=fun b' hb'=>by
  have e9:¬ b'=(n,9):=ne_fst hb' (by show h.clk≤n;omega)
  have e10:¬ b'=(n+1,10):=ne_fst hb' (by show h.clk≤n+1;omega)
  rw [q3 b' e9 (by omega),if_neg e10,if_neg e9]
 ·repeat' (first|refine st_op ?_|refine st_det rfl (by simp (disch:=omega) only[go_sem,wr_i64,q5,Lm];rfl) ?_|refine st_gT rfl rfl rfl ?_|refine st_nil ?_|refine st_ret ?_)
  simp (disch:=omega) only[AEnd,Tryz.results19,aresK,fin,go_sem,implies_true,true_and,and_true,List.reverse_cons,List.reverse_nil]
  refine ⟨hold,q2,?_⟩
  rw [hE]
  unfold provedB
  rw [q6]
  have:decide ((i':Int)=(p.length:Int))=decide (some (p.drop i')=some []):=by
   by_cases e:i'=p.length
   ·rw [e,List.drop_length,decide_eq_true rfl,decide_eq_true rfl]
   ·rw [decide_eq_false (by omega),decide_eq_false (fun q=>by
     have:=congrArg (fun x=>(x.getD []).length) q
     simp at this;omega)]
  rw [this]
 ·have hold:∀ b':Bid,b'.1 < h.clk→g1.at_ b'=h.at_ b':=fun b' hb'=>by
   have e9:¬ b'=(n,9):=ne_fst hb' (by show h.clk≤n;omega)
   have e10:¬ b'=(n+1,10):=ne_fst hb' (by show h.clk≤n+1;omega)
   rw [q3 b' e9 (by omega),if_neg e10,if_neg e9]
  repeat' (first|refine st_seq_reg rfl (by first|(simp only[go_sem,q5];rfl)|rfl) (by first|(simp only[go_sem,q5];rfl)|rfl) ?_)
  simp (disch:=omega) only[AEnd,Tryz.results19,aresK,fin,go_sem,implies_true,true_and,and_true,List.reverse_cons,List.reverse_nil]
  refine ⟨hold,q2,?_⟩
  rw [hE]
  unfold provedB
  rw [q6];rfl
end Go.Proofs.YtoafigpikgigaaaGreatDoor
