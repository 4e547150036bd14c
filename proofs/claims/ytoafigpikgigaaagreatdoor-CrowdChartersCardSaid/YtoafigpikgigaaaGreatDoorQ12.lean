/- Contracts of functions that the claim reaches: what each call gives, told in our own logic. Conditions: those of each theorem. -/
import Derived.Test.YtoafigpikgigaaaGreatDoorQ9
import Derived.Test.YtoafigpikgigaaaGreatDoorV3
open List (length_map)
set_option linter.all false
set_option linter.unusedSimpArgs false
set_option linter.unusedVariables false
namespace Go.Proofs.YtoafigpikgigaaaGreatDoor
open Go.Av
attribute [local irreducible] thenA blockA awp awpOps awpD awp1
attribute [local go_sem_proc] Nat.reduceAdd Nat.reduceMul Nat.reduceEqDiff Nat.reduceBEq Nat.reduceLeDiff
attribute [local go_sem_proc ↓] reduceIte
attribute [local go_sem] if_yes if_no
set_option maxHeartbeats 8000000
set_option maxRecDepth 20000
def stR (f:Nat→Int):List AV:=(List.range 12).map fun i=>.int .i64 (f i)
@[go_sem] theorem stR_len (f:Nat→Int):(stR f).length=12:=by simp [stR]
@[go_sem] theorem stR_get (f:Nat→Int) (i:Nat) (h:i < 12):(stR f)[i]?=some (.int .i64 (f i)):=by
 unfold stR;rw [List.getElem?_map,List.getElem?_range h];rfl
theorem stR_ext {f g:Nat→Int} (h:∀ i,i < 12→f i=g i):stR f=stR g:=by
 unfold stR
 apply List.map_congr_left
 intro i hi
 rw [h i (by simpa using hi)]
theorem stR_set (f:Nat→Int) (i:Nat) (v:Int):(stR f).set i (.int .i64 v)=stR (upd f i v):=by
 apply List.ext_getElem?
 intro j
 rw [List.getElem?_set]
 by_cases hj:j < 12
 ·rw [stR_get _ _ hj]
  by_cases e:i=j
  ·subst e;rw [if_pos rfl,if_pos (by rw [stR_len];exact hj),stR_get _ _ hj];simp [upd]
  ·rw [if_neg e,stR_get _ _ hj];simp [upd,Ne.symm e]
 ·have h1:(stR (upd f i v))[j]?=none:=List.getElem?_eq_none (by rw [stR_len];omega)
  have h2:(stR f)[j]?=none:=List.getElem?_eq_none (by rw [stR_len];omega)
  rw [h1]
  split
  ·rw [if_neg (by rw [stR_len];omega)]
  ·exact h2
theorem stR_put (f:Nat→Int) (i:Nat) (v:Int) (hi:i < 12):List.take i (stR f) ++ [AV.int .i64 v] ++ List.drop (i+1) (stR f)=stR (upd f i v):=by
 rw [← stR_set,List.set_eq_take_append_cons_drop,if_pos (by rw [stR_len];exact hi),List.append_assoc];rfl
@[go_sem] theorem stR_take (f:Nat→Int):List.take 12 (stR f)=stR f:=List.take_of_length_le (by rw [stR_len];omega)
@[go_sem] theorem stR_apart (f:Nat→Int):apart true 12 0 (stR f)=some (.agg (stR f)):=by
 unfold apart;rw [if_pos rfl,if_pos (by rw [stR_len];omega),List.drop_zero,stR_take]
@[go_sem] theorem stR_apartI (f:Nat→Int) (i:Nat) (h:i < 12):apart false 1 i (stR f)=some (.int .i64 (f i)):=by
 unfold apart;rw [if_neg (by simp),stR_get _ _ h]
@[go_sem] theorem stR_all (f:Nat→Int):(stR f).all AV.cell=true:=by
 rw [List.all_eq_true];intro x hx
 unfold stR at hx
 rw [List.mem_map] at hx
 obtain ⟨i,_,rfl⟩:=hx
 rfl
theorem c52 (f:Nat→Int) (i v:Int) (hi:0≤i∧i < 12):Pure Tryz.prog 52 [.agg (stR f),.int .i64 i,.int .i64 v] (fun x=>x=.agg (stR (upd f i.toNat v))):=by
 intro h
 refine ACalls.forget (ACalls.of tab mixed Tryz.call52 Tryz.func52 rfl (fi:=⟨11,[3,6],[],none,[]⟩) rfl rfl (Nat.le_of_ble_eq_true rfl) (by decide) ?_)
 unfold startA
 repeat' (first|refine st_seq_reg rfl (by first|(simp only[go_sem,stR_put,Nat.zero_add];rfl)|rfl) (by first|(simp only[go_sem,stR_put,Nat.zero_add];rfl)|rfl) ?_|refine st_op ?_|refine st_det rfl (by simp (disch:=omega) only[go_sem,wr_i64,stR_put,Nat.zero_add];rfl) ?_|refine st_loc rfl (by simp (disch:=omega) only[go_sem,wr_i64,stR_put,Nat.zero_add];rfl) ?_|refine st_store (by simp (disch:=omega) only[go_sem,wr_i64,stR_put,Nat.zero_add];rfl) ?_|refine st_nil ?_|refine st_ret ?_)
 simp (disch:=omega) only[AEnd,Tryz.results52,aresK,fin,go_sem,implies_true,true_and,and_true,List.reverse_cons,List.reverse_nil]
 simp only[List.append_nil,go_sem,Nat.le_refl,if_true]
 try rfl
theorem cls_next (c:List Int) (i:Nat) (hi:i < c.length) (h0:0≤elt c i):upd (cls (c.take i)) (elt c i).toNat 2=cls (c.take (i+1)):=by
 have e:c.take (i+1)=c.take i ++ [elt c i]:=by
  rw [List.take_add_one,List.getElem?_eq_getElem hi]
  simp [elt,List.getD_eq_getElem?_getD,hi]
 funext j
 unfold cls upd
 rw [e]
 by_cases hj:j=(elt c i).toNat
 ·rw [if_pos hj,if_pos]
  rw [List.contains_iff_mem,List.mem_append]
  right;simp;omega
 ·rw [if_neg hj]
  have:(c.take i ++ [elt c i]).contains ((j:Nat):Int)=(c.take i).contains ((j:Nat):Int):=by
   rw [Bool.eq_iff_iff,List.contains_iff_mem,List.contains_iff_mem,List.mem_append]
   constructor
   ·rintro (h|h)
    ·exact h
    ·simp at h;omega
   ·exact .inl
  rw [this]
theorem c47 (c:List Int) (hc':c.length≤1000000) (hb:∀ i,i < c.length→0≤elt c i∧elt c i < 12):Pure Tryz.prog 47 [.lst 1 (c.map iv)] (fun x=>x=.agg (stR (cls c))):=by
 have g0:stR (fun j=>if j < 12 then 1 else 0)=stR (cls (c.take 0)):=stR_ext fun i hi=>by
  show (if i < 12 then (1:Int) else 0)=if ([]:List Int).contains _ then 2 else 1
  rw [if_pos hi,if_neg (by simp)]
 intro h
 refine ACalls.forget (ACalls.of tab mixed Tryz.call47 Tryz.func47 rfl (fi:=⟨23,[2,3],[],none,[]⟩) rfl rfl (Nat.le_of_ble_eq_true rfl) (by decide) ?_)
 unfold startA
 repeat' (first|refine st_seq_reg rfl (by first|(simp only[go_sem];rfl)|rfl) (by first|(simp only[go_sem];rfl)|rfl) ?_|refine st_op ?_|refine st_det rfl (by simp (disch:=omega) only[go_sem,wr_i64];rfl) ?_|refine st_loc rfl (by simp (disch:=omega) only[go_sem,wr_i64];rfl) ?_|refine st_nil ?_|refine st_seq ?_|refine st_block ?_)
 refine st_loopC (α:=Nat) tab mixed [3] [_] (by repeat (first|exact trivial|refine ⟨rfl,?_⟩)) [2] [_] (by repeat (first|exact trivial|refine ⟨rfl,?_⟩)) (fun i=>[(7,.int .i64 (i:Nat))]) [(0,_),(2,_),(3,_)] (fun i=>[stR (fun j=>if j < i then 1 else 0)]) [_] (fun i=>i≤12) (fun i=>12 - i) (by decide) 0 (by omega) (by (try simp only[go_sem]);repeat' (first|exact trivial|refine And.intro ?_ ?_|rfl|(simp (disch:=omega) only[go_sem,if_yes,if_no,if_no];rfl)|(simp (disch:=omega) only[go_sem,if_yes,if_no,if_no]))) (by (try simp only[go_sem]);repeat' (first|exact trivial|refine And.intro ?_ ?_|rfl|(simp (disch:=omega) only[go_sem,if_yes,if_no,if_no];rfl)|(simp (disch:=omega) only[go_sem,if_yes,if_no,if_no]))) (by first|(simp only[go_sem];rfl)|rfl) (by intro n;simp only[go_sem];rfl) ?_
 rintro i d hi' hd
 simp only[go_sem]
 by_cases hi:i < 12
 case pos =>
  have g1:stR (upd (fun j=>if j < i then 1 else 0) i 1)=stR (fun j=>if j < i+1 then 1 else 0):=stR_ext fun j _=>by
   simp only[upd]
   by_cases e:j=i
   ·rw [if_pos e,if_pos (by omega)]
   ·rw [if_neg e]
    by_cases e2:j < i
    ·rw [if_pos e2,if_pos (by omega)]
    ·rw [if_neg e2,if_neg (by omega)]
  repeat' (first|refine st_seq_reg rfl (by first|(simp only[go_sem,stR_put,Nat.zero_add,g1];rfl)|rfl) (by first|(simp only[go_sem,stR_put,Nat.zero_add,g1];rfl)|rfl) ?_|refine st_reg rfl (by first|(simp only[go_sem,stR_put,Nat.zero_add,g1];rfl)|rfl) (by first|(simp only[go_sem,stR_put,Nat.zero_add,g1];rfl)|rfl) ?_|refine st_op ?_|refine st_det rfl (by simp (disch:=omega) only[go_sem,wr_i64,stR_put,Nat.zero_add,g1];rfl) ?_|refine st_store (by simp (disch:=omega) only[go_sem,wr_i64,stR_put,Nat.zero_add,g1];rfl) ?_|(refine st_condS rfl ?_ ?_ <;> intro hg <;> (try simp only[dcT,dcF,bnT,bnF] at hg))|refine st_nil ?_|refine st_tN ?_|refine st_seq ?_|refine st_block ?_|refine st_skip ?_|refine st_exit ?_|refine st_tE ?_|refine st_bN ?_|refine st_bH ?_)
  all_goals try (exfalso;omega)
  refine ⟨i+1,by show i+1≤12;omega,by show 12 - (i+1) < 12 - i;omega,(by repeat' (first|exact trivial|refine And.intro ?_ ?_|rfl|(simp (disch:=omega) only[go_sem,if_yes,if_no,if_no];rfl)|(simp (disch:=omega) only[go_sem,if_yes,if_no,if_no]))),(by repeat' (first|exact trivial|refine And.intro ?_ ?_|rfl|(simp (disch:=omega) only[go_sem,if_yes,if_no,if_no];rfl)|(simp (disch:=omega) only[go_sem,if_yes,if_no,if_no]))),rfl,(by first|exact HOld.of _ (by omega)|exact HOld.put _ _ _ (by omega))⟩
 obtain rfl:i=12:=by omega
 rw [g0]
 repeat' (first|refine st_seq_reg rfl (by first|(simp only[go_sem,Lm];rfl)|rfl) (by first|(simp only[go_sem,Lm];rfl)|rfl) ?_|refine st_op ?_|refine st_det rfl (by simp (disch:=omega) only[go_sem,wr_i64,Lm];rfl) ?_|refine st_condF rfl ?_|refine st_nil ?_|refine st_tN ?_|refine st_seq ?_|refine st_block ?_|refine st_exit ?_|refine st_tE ?_|refine st_bH ?_)
 all_goals try (exfalso;omega)
 refine st_loopC (α:=Nat) tab mixed [3] [_] (by repeat (first|exact trivial|refine ⟨rfl,?_⟩)) [2] [_] (by repeat (first|exact trivial|refine ⟨rfl,?_⟩)) (fun i=>[(15,.int .i64 (i:Nat))]) [(0,_),(2,_),(3,_),(13,_),(14,_)] (fun i=>[stR (cls (c.take i))]) [_] (fun i=>i≤c.length) (fun i=>c.length - i) (by decide) 0 (Nat.zero_le _) (by (try simp only[go_sem]);repeat' (first|exact trivial|refine And.intro ?_ ?_|rfl|(simp (disch:=omega) only[go_sem,if_yes,if_no,if_no];rfl)|(simp (disch:=omega) only[go_sem,if_yes,if_no,if_no]))) (by (try simp only[go_sem]);repeat' (first|exact trivial|refine And.intro ?_ ?_|rfl|(simp (disch:=omega) only[go_sem,if_yes,if_no,if_no];rfl)|(simp (disch:=omega) only[go_sem,if_yes,if_no,if_no]))) (by first|(simp only[go_sem];rfl)|rfl) (by intro n;simp only[go_sem];rfl) ?_
 rintro i e hi' he
 simp only[go_sem]
 by_cases hi:i < c.length
 case pos =>
  have b1:=hb i hi
  have g2:=cls_next c i hi b1.1
  repeat' (first|refine st_seq_reg rfl (by first|(simp only[go_sem,Lm,stR_put,Nat.zero_add,g2];rfl)|rfl) (by first|(simp only[go_sem,Lm,stR_put,Nat.zero_add,g2];rfl)|rfl) ?_|refine st_reg rfl (by first|(simp only[go_sem,Lm,stR_put,Nat.zero_add,g2];rfl)|rfl) (by first|(simp only[go_sem,Lm,stR_put,Nat.zero_add,g2];rfl)|rfl) ?_|refine st_op ?_|refine st_det rfl (by simp (disch:=omega) only[go_sem,wr_i64,Lm,stR_put,Nat.zero_add,g2];rfl) ?_|refine st_store (by simp (disch:=omega) only[go_sem,wr_i64,Lm,stR_put,Nat.zero_add,g2];rfl) ?_|(refine st_condS rfl ?_ ?_ <;> intro hg <;> (try simp only[dcT,dcF,bnT,bnF] at hg))|refine st_nil ?_|refine st_tN ?_|refine st_seq ?_|refine st_block ?_|refine st_skip ?_|refine st_exit ?_|refine st_ret ?_|refine st_tE ?_|refine st_bN ?_|refine st_bH ?_)
  all_goals try (exfalso;omega)
  refine ⟨i+1,by show i+1≤_;omega,by show c.length - (i+1) < c.length - i;omega,(by repeat' (first|exact trivial|refine And.intro ?_ ?_|rfl|(simp (disch:=omega) only[go_sem,if_yes,if_no,if_no];rfl)|(simp (disch:=omega) only[go_sem,if_yes,if_no,if_no]))),(by repeat' (first|exact trivial|refine And.intro ?_ ?_|rfl|(simp (disch:=omega) only[go_sem,if_yes,if_no,if_no];rfl)|(simp (disch:=omega) only[go_sem,if_yes,if_no,if_no]))),rfl,(by first|exact HOld.of _ (by omega)|exact HOld.put _ _ _ (by omega))⟩
 obtain rfl:i=c.length:=by omega
 repeat' (first|refine st_seq_reg rfl (by first|(simp only[go_sem,Lm,List.take_length];rfl)|rfl) (by first|(simp only[go_sem,Lm,List.take_length];rfl)|rfl) ?_|refine st_reg rfl (by first|(simp only[go_sem,Lm,List.take_length];rfl)|rfl) (by first|(simp only[go_sem,Lm,List.take_length];rfl)|rfl) ?_|refine st_op ?_|refine st_det rfl (by simp (disch:=omega) only[go_sem,wr_i64,Lm,List.take_length];rfl) ?_|refine st_store (by simp (disch:=omega) only[go_sem,wr_i64,Lm,List.take_length];rfl) ?_|(refine st_condS rfl ?_ ?_ <;> intro hg <;> (try simp only[dcT,dcF,bnT,bnF] at hg))|refine st_nil ?_|refine st_tN ?_|refine st_seq ?_|refine st_block ?_|refine st_skip ?_|refine st_exit ?_|refine st_ret ?_|refine st_tE ?_|refine st_bN ?_|refine st_bH ?_)
 all_goals try (exfalso;omega)
 simp (disch:=omega) only[AEnd,Tryz.results47,aresK,fin,go_sem,implies_true,true_and,and_true,List.reverse_cons,List.reverse_nil]
 simp only[List.append_nil,go_sem,Nat.le_refl,if_true]
 try rfl
end Go.Proofs.YtoafigpikgigaaaGreatDoor

namespace Go.Proofs.YtoafigpikgigaaaGreatDoor
open Go.Av
attribute [local irreducible] thenA blockA awp awpOps awpD awp1
attribute [local go_sem_proc] Nat.reduceAdd Nat.reduceMul Nat.reduceEqDiff Nat.reduceBEq Nat.reduceLeDiff
attribute [local go_sem_proc ↓] reduceIte
attribute [local go_sem] if_yes if_no
set_option maxHeartbeats 8000000
set_option maxRecDepth 20000
theorem wlk_next {t:Tw} {f:Nat→Int} {p:List Int} {i k:Nat} {q:Int} (hi:i < p.length) (hk:¬ k=i) (h1:i≤k) (h2:f (elt p i).toNat=1 ∨ (¬ f (elt p i).toNat=0∧¬ f (elt p i).toNat=2)) :
  wlk t f (p.drop i) (k - i) q=wlk t f (p.drop (i+1)) (k - (i+1)) (oth (sx t.sts (elt p i).toNat) q):=by
 rw [drop_getD 0 hi]
 obtain ⟨m,hm⟩:∃ m,k - i=m+1:=⟨k - i - 1,by omega⟩
 rw [hm,(by omega:k - (i+1)=m)]
 show (if f (elt p i).toNat=0 then _ else if f (elt p i).toNat=2 then _ else _)=_
 rw [if_neg (by omega),if_neg (by omega)]
 rfl
theorem wlk_zero {t:Tw} {f:Nat→Int} {p:List Int} {i k:Nat} {q:Int} (hi:i < p.length) (hk:¬ k=i) (h1:i≤k) (h2:f (elt p i).toNat=0):wlk t f (p.drop i) (k - i) q = -2:=by
 rw [drop_getD 0 hi]
 obtain ⟨m,hm⟩:∃ m,k - i=m+1:=⟨k - i - 1,by omega⟩
 rw [hm]
 show (if f (elt p i).toNat=0 then _ else if f (elt p i).toNat=2 then _ else _)=_
 rw [if_pos h2]
theorem wlk_two {t:Tw} {f:Nat→Int} {p:List Int} {i k:Nat} {q:Int} (hi:i < p.length) (hk:¬ k=i) (h1:i≤k) (h2:f (elt p i).toNat=2):wlk t f (p.drop i) (k - i) q=q:=by
 rw [drop_getD 0 hi]
 obtain ⟨m,hm⟩:∃ m,k - i=m+1:=⟨k - i - 1,by omega⟩
 rw [hm]
 show (if f (elt p i).toNat=0 then _ else if f (elt p i).toNat=2 then _ else _)=_
 rw [if_neg (by omega),if_pos h2]
theorem wlk_stop {t:Tw} {f:Nat→Int} {p:List Int} {i:Nat} {q:Int} (hi:i < p.length):wlk t f (p.drop i) 0 q=q:=by
 rw [drop_getD 0 hi];rfl
theorem many_bd {s c k:Int} (h1:0≤s - c) (h2:s - c≤96) (h3:1≤k):0≤(s - c).tdiv k∧(s - c).tdiv k≤96:=by
 rw [Int.tdiv_eq_ediv_of_nonneg h1]
 exact ⟨Int.ediv_nonneg h1 (by omega),Int.le_trans (Int.ediv_le_self _ h1) h2⟩
theorem c82 (t:Tw) (f:Nat→Int) (g:Gp) (came step:Int) (hT:TwOk t) (hG:GpOk t g) (hc':0≤came∧came≤96) (hs':0≤step∧step≤96):Pure Tryz.prog 82 [.agg (stR f),t.av,.agg g.row,.int .i64 came,.int .i64 step] (fun v=>v=.int .i64 (plc t f g came step)):=by
 have hst:=hG.stay
 have hsn:=hT.sn
 have hmy:=hG.many
 by_cases h0:step < came
 ·intro h
  refine ACalls.forget (ACalls.of tab mixed Tryz.call82 Tryz.func82 rfl (fi:=⟨60,[],[5,6,7],none,[]⟩) rfl rfl (Nat.le_of_ble_eq_true rfl) (by decide) ?_)
  unfold startA
  simp only[go_sem]
  repeat' (first|refine st_seq_reg rfl (by first|(simp only[go_sem];rfl)|rfl) (by first|(simp only[go_sem];rfl)|rfl) ?_|refine st_op ?_|refine st_det rfl (by simp (disch:=omega) only[go_sem,wr_i64];rfl) ?_|(refine st_condS rfl ?_ ?_ <;> intro hg <;> (try simp only[dcT,dcF,bnT,bnF] at hg))|refine st_nil ?_|refine st_tN ?_|refine st_seq ?_|refine st_skip ?_|refine st_ret ?_|refine st_tR ?_)
  all_goals try (exfalso;omega)
  simp (disch:=omega) only[AEnd,Tryz.results82,aresK,fin,go_sem,implies_true,true_and,and_true,List.reverse_cons,List.reverse_nil]
  unfold plc;rw [if_pos h0]
 have hm:=many_bd (s:=step) (c:=came) (k:=g.stay) (by omega) (by omega) hst.1
 have hP:plc t f g came step=wlk t f g.path ((step - came).tdiv g.stay).toNat g.first:=by unfold plc;rw [if_neg h0]
 intro h
 refine ACalls.forget (ACalls.of tab mixed Tryz.call82 Tryz.func82 rfl (fi:=⟨60,[],[5,6,7],none,[]⟩) rfl rfl (Nat.le_of_ble_eq_true rfl) (by decide) ?_)
 unfold startA
 simp only[go_sem]
 repeat' (first|refine st_seq_reg rfl (by first|(simp only[go_sem,Lm];rfl)|rfl) (by first|(simp only[go_sem,Lm];rfl)|rfl) ?_|refine st_op ?_|refine st_det rfl (by simp (disch:=omega) only[go_sem,wr_i64,Lm];rfl) ?_|(refine st_condS rfl ?_ ?_ <;> intro hg <;> (try simp only[dcT,dcF,bnT,bnF] at hg))|refine st_nil ?_|refine st_tN ?_|refine st_seq ?_|refine st_block ?_|refine st_skip ?_|refine st_ret ?_|refine st_tR ?_)
 all_goals try (exfalso;omega)
 generalize hk:(step - came).tdiv g.stay=k at *
 obtain ⟨k,rfl⟩:∃ m:Nat,k=m:=⟨k.toNat,by omega⟩
 refine st_loopC (α:=Nat × Int) tab mixed [] [] (by repeat (first|exact trivial|refine ⟨rfl,?_⟩)) [] [] (by repeat (first|exact trivial|refine ⟨rfl,?_⟩)) (fun a=>[(29,.int .i64 (a.1:Nat)),(11,.int .i64 a.2)]) [(0,_),(1,_),(2,_),(3,_),(4,_),(5,_),(6,_),(7,_),(12,_),(27,_),(28,_)] (fun _=>[]) [] (fun a=>a.1≤g.path.length∧a.1≤k∧wlk t f (g.path.drop a.1) (k - a.1) a.2=plc t f g came step) (fun a=>g.path.length - a.1) (by decide) (0,g.first) ⟨Nat.zero_le _,Nat.zero_le _,by rw [hP];rfl⟩ (by (try simp only[go_sem]);repeat' (first|exact trivial|refine And.intro ?_ ?_|rfl|(simp (disch:=omega) only[go_sem,if_yes,if_no,if_no];rfl)|(simp (disch:=omega) only[go_sem,if_yes,if_no,if_no]))) (by (try simp only[go_sem]);repeat' (first|exact trivial|refine And.intro ?_ ?_|rfl|(simp (disch:=omega) only[go_sem,if_yes,if_no,if_no];rfl)|(simp (disch:=omega) only[go_sem,if_yes,if_no,if_no]))) (by first|(simp only[go_sem];rfl)|rfl) (by intro n;simp only[go_sem];rfl) ?_
 rintro ⟨i,q⟩ d ⟨i1,i2,i3⟩ hd
 dsimp only at i1 i2 i3
 simp only[go_sem]
 have q2:=c54 (sx t.sts (elt g.path i).toNat) q
 by_cases hi:i < g.path.length
 case pos =>
  have ha:=hG.st i hi
  by_cases hki:k=i
  ·subst hki
   repeat' (first|refine st_seq_reg rfl (by first|(simp only[go_sem,Lm,Nat.zero_add];rfl)|rfl) (by first|(simp only[go_sem,Lm,Nat.zero_add];rfl)|rfl) ?_|refine st_op ?_|refine st_det rfl (by simp (disch:=omega) only[go_sem,wr_i64,Lm,Nat.zero_add];rfl) ?_|refine st_condT rfl ?_|(refine st_condS rfl ?_ ?_ <;> intro hg <;> (try simp only[dcT,dcF,bnT,bnF] at hg))|refine st_nil ?_|refine st_tN ?_|refine st_seq ?_|refine st_block ?_|refine st_skip ?_|refine st_exit ?_|refine st_ret ?_|refine st_tE ?_|refine st_tR ?_|refine st_bR ?_|refine st_bH ?_)
   all_goals try (exfalso;omega)
   simp (disch:=omega) only[AEnd,Tryz.results82,aresK,fin,go_sem,implies_true,true_and,and_true,List.reverse_cons,List.reverse_nil]
   rw [← i3,Nat.sub_self,wlk_stop hi]
  by_cases s0:f (elt g.path i).toNat=0
  ·repeat' (first|refine st_seq_reg rfl (by first|(simp only[go_sem,Lm,Nat.zero_add];rfl)|rfl) (by first|(simp only[go_sem,Lm,Nat.zero_add];rfl)|rfl) ?_|refine st_reg rfl (by first|(simp only[go_sem,Lm,Nat.zero_add];rfl)|rfl) (by first|(simp only[go_sem,Lm,Nat.zero_add];rfl)|rfl) ?_|refine st_op ?_|refine st_det rfl (by simp (disch:=omega) only[go_sem,wr_i64,Lm,Nat.zero_add];rfl) ?_|(refine st_condS rfl ?_ ?_ <;> intro hg <;> (try simp only[dcT,dcF,bnT,bnF] at hg))|refine st_nil ?_|refine st_tN ?_|refine st_seq ?_|refine st_block ?_|refine st_skip ?_|refine st_exit ?_|refine st_ret ?_|refine st_tE ?_|refine st_tR ?_|refine st_bN ?_|refine st_bR ?_|refine st_bH ?_)
   all_goals try (exfalso;omega)
   simp (disch:=omega) only[AEnd,Tryz.results82,aresK,fin,go_sem,implies_true,true_and,and_true,List.reverse_cons,List.reverse_nil]
   rw [← i3,wlk_zero hi hki i2 s0]
  by_cases s2:f (elt g.path i).toNat=2
  ·repeat' (first|refine st_seq_reg rfl (by first|(simp only[go_sem,Lm,Nat.zero_add];rfl)|rfl) (by first|(simp only[go_sem,Lm,Nat.zero_add];rfl)|rfl) ?_|refine st_reg rfl (by first|(simp only[go_sem,Lm,Nat.zero_add];rfl)|rfl) (by first|(simp only[go_sem,Lm,Nat.zero_add];rfl)|rfl) ?_|refine st_op ?_|refine st_det rfl (by simp (disch:=omega) only[go_sem,wr_i64,Lm,Nat.zero_add];rfl) ?_|(refine st_condS rfl ?_ ?_ <;> intro hg <;> (try simp only[dcT,dcF,bnT,bnF] at hg))|refine st_nil ?_|refine st_tN ?_|refine st_seq ?_|refine st_block ?_|refine st_skip ?_|refine st_exit ?_|refine st_ret ?_|refine st_tE ?_|refine st_tR ?_|refine st_bN ?_|refine st_bR ?_|refine st_bH ?_)
   all_goals try (exfalso;omega)
   simp (disch:=omega) only[AEnd,Tryz.results82,aresK,fin,go_sem,implies_true,true_and,and_true,List.reverse_cons,List.reverse_nil]
   rw [← i3,wlk_two hi hki i2 s2]
  repeat' (first|refine st_seq_reg rfl (by first|(simp only[go_sem,Lm,Nat.zero_add];rfl)|rfl) (by first|(simp only[go_sem,Lm,Nat.zero_add];rfl)|rfl) ?_|refine st_reg rfl (by first|(simp only[go_sem,Lm,Nat.zero_add];rfl)|rfl) (by first|(simp only[go_sem,Lm,Nat.zero_add];rfl)|rfl) ?_|refine st_op ?_|refine st_det rfl (by simp (disch:=omega) only[go_sem,wr_i64,Lm,Nat.zero_add];rfl) ?_|(refine st_pureE (by first|(simp (disch:=omega) only[go_sem,Lm,Nat.zero_add];rfl)|rfl) rfl (q2) (by first|(simp only[go_sem,Lm,Nat.zero_add];rfl)|rfl) (by intro n;first|(simp (disch:=omega) only[go_sem];rfl)|rfl) ?_;intro n hn)|(refine st_condS rfl ?_ ?_ <;> intro hg <;> (try simp only[dcT,dcF,bnT,bnF] at hg))|refine st_nil ?_|refine st_tN ?_|refine st_seq ?_|refine st_block ?_|refine st_skip ?_|refine st_exit ?_|refine st_ret ?_|refine st_tE ?_|refine st_tR ?_|refine st_bN ?_|refine st_bR ?_|refine st_bH ?_)
  all_goals try (exfalso;omega)
  refine ⟨(i+1,oth (sx t.sts (elt g.path i).toNat) q),⟨by show i+1≤_;omega,by show i+1≤k;omega,by rw [← i3,wlk_next hi hki i2 (.inr ⟨s0,s2⟩)]⟩,by show g.path.length - (i+1) < g.path.length - i;omega,(by repeat' (first|exact trivial|refine And.intro ?_ ?_|rfl|(simp (disch:=omega) only[go_sem,if_yes,if_no,if_no];rfl)|(simp (disch:=omega) only[go_sem,if_yes,if_no,if_no]))),(by repeat' (first|exact trivial|refine And.intro ?_ ?_|rfl|(simp (disch:=omega) only[go_sem,if_yes,if_no,if_no];rfl)|(simp (disch:=omega) only[go_sem,if_yes,if_no,if_no]))),rfl,(by first|exact HOld.of _ (by omega)|exact HOld.put _ _ _ (by omega))⟩
 obtain rfl:i=g.path.length:=by omega
 rw [List.drop_eq_nil_of_le (Nat.le_refl _)] at i3
 have i4:plc t f g came step=if 0 < k - g.path.length then -1 else q:=by rw [← i3];rfl
 repeat' (first|refine st_seq_reg rfl (by first|(simp only[go_sem,Lm,Nat.zero_add];rfl)|rfl) (by first|(simp only[go_sem,Lm,Nat.zero_add];rfl)|rfl) ?_|refine st_reg rfl (by first|(simp only[go_sem,Lm,Nat.zero_add];rfl)|rfl) (by first|(simp only[go_sem,Lm,Nat.zero_add];rfl)|rfl) ?_|refine st_op ?_|refine st_det rfl (by simp (disch:=omega) only[go_sem,wr_i64,Lm,Nat.zero_add];rfl) ?_|(refine st_condS rfl ?_ ?_ <;> intro hg <;> (try simp only[dcT,dcF,bnT,bnF] at hg))|refine st_nil ?_|refine st_tN ?_|refine st_seq ?_|refine st_block ?_|refine st_skip ?_|refine st_exit ?_|refine st_ret ?_|refine st_tE ?_|refine st_tR ?_|refine st_bN ?_|refine st_bR ?_|refine st_bH ?_)
 all_goals try (exfalso;omega)
 ·simp (disch:=omega) only[AEnd,Tryz.results82,aresK,fin,go_sem,implies_true,true_and,and_true,List.reverse_cons,List.reverse_nil]
  rw [i4,if_pos (by omega)]
 ·simp (disch:=omega) only[AEnd,Tryz.results82,aresK,fin,go_sem,implies_true,true_and,and_true,List.reverse_cons,List.reverse_nil]
  rw [i4,if_neg (by omega)]
end Go.Proofs.YtoafigpikgigaaaGreatDoor

namespace Go.Proofs.YtoafigpikgigaaaGreatDoor
open Go.Av
attribute [local irreducible] thenA blockA awp awpOps awpD awp1
attribute [local go_sem_proc] Nat.reduceAdd Nat.reduceMul Nat.reduceEqDiff Nat.reduceBEq Nat.reduceLeDiff
attribute [local go_sem_proc ↓] reduceIte
attribute [local go_sem] if_yes if_no
set_option maxHeartbeats 8000000
set_option maxRecDepth 20000
def Tw.cells (t:Tw):List AV:=[.lst 1 (t.rooms.map iv),.lst 2 (t.sts.map Sx.row),.lst 7 (t.gs.map Gp.row),.int .i64 t.steps]
def plN (g:Gp):Nat:=(g.ahi - g.alo+1).toNat
theorem c67 (t:Tw) (f:Nat→Int) (g:Gp) (step:Int):Pure Tryz.prog 67 [.agg (stR f),t.av,.agg g.row,.int .i64 step] (fun v=>v=.fn (.func 81) [] [.iptr g.row 0,.iptr (stR f) 0,.iptr t.cells 0,.iptr [.int .i64 step] 0]):=by
 intro h
 refine ACalls.forget (ACalls.of tab mixed Tryz.call67 Tryz.func67 rfl (fi:=⟨10,[],[4,5,6,7],none,[]⟩) rfl rfl (Nat.le_of_ble_eq_true rfl) (by decide) ?_)
 unfold startA
 simp only[go_sem]
 repeat' (first|refine st_seq_reg rfl (by first|(simp only[go_sem];rfl)|rfl) (by first|(simp only[go_sem];rfl)|rfl) ?_|refine st_op ?_|refine st_det rfl (by simp (disch:=omega) only[go_sem,wr_i64];rfl) ?_|refine st_nil ?_|refine st_ret ?_)
 simp (disch:=omega) only[AEnd,Tryz.results67,aresK,fin,go_sem,implies_true,true_and,and_true,List.reverse_cons,List.reverse_nil]
 try rfl
@[go_sem] theorem add_z (x:Int):x+((0:Nat):Int)=x:=Int.add_zero x
theorem add_s (x:Int) (i:Nat):x+((i+1:Nat):Int)=x+(i:Nat)+1:=by omega
theorem c81 (t:Tw) (f:Nat→Int) (g:Gp) (step:Int) (l:Nat) (hT:TwOk t) (hG:GpOk t g) (hs:0≤step∧step≤96) (I:Nat→AH→Prop) (hI:∀ i g' n,I i g'→g'.clk≤n→I i (g'.tick n))
  (hy:∀ i g',i < plN g→I i g'→AYields Tryz.prog l [.int .i64 (plc t f g (g.alo+(i:Nat)) step)] g' (fun v h'=>v=.bool true∧I (i+1) h')) (h:AH) (h0:I 0 h) :
  ACalls Tryz.prog 81 [.fn (.yield l) [] [],.iptr g.row 0,.iptr (stR f) 0,.iptr t.cells 0,.iptr [.int .i64 step] 0] h (fun _ h'=>I (plN g) h'):=by
 have ha:=hG.at_
 have hpn:(plN g:Int)=g.ahi - g.alo+1:=by unfold plN;omega
 refine ACalls.of tab mixed Tryz.call81 Tryz.func81 rfl (fi:=⟨26,[],[],none,[]⟩) rfl rfl (Nat.le_of_ble_eq_true rfl) (by decide) ?_
 unfold startA
 unfold Tw.cells
 simp only[go_sem]
 repeat' (first|refine st_seq_reg rfl (by first|(simp only[go_sem];rfl)|rfl) (by first|(simp only[go_sem];rfl)|rfl) ?_|refine st_op ?_|refine st_det rfl (by simp (disch:=omega) only[go_sem,wr_i64];rfl) ?_|refine st_nil ?_|refine st_block ?_)
 refine st_loopH (α:=Nat × AH) tab mixed [] [] (by repeat (first|exact trivial|refine ⟨rfl,?_⟩)) [] [] (by repeat (first|exact trivial|refine ⟨rfl,?_⟩)) (fun a=>[(6,.int .i64 (g.alo+(a.1:Nat)))]) [(0,_),(1,_),(2,_),(3,_),(4,_)] (fun _=>[]) [] (fun a=>a.2) (fun a=>a.1≤plN g∧I a.1 a.2) (fun a=>plN g - a.1) (by decide) (0,h) ⟨Nat.zero_le _,h0⟩ (by (try simp only[go_sem]);repeat' (first|exact trivial|refine And.intro ?_ ?_|rfl|(simp (disch:=omega) only[go_sem,if_yes,if_no,if_no];rfl)|(simp (disch:=omega) only[go_sem,if_yes,if_no,if_no]))) (by (try simp only[go_sem]);repeat' (first|exact trivial|refine And.intro ?_ ?_|rfl|(simp (disch:=omega) only[go_sem,if_yes,if_no,if_no];rfl)|(simp (disch:=omega) only[go_sem,if_yes,if_no,if_no]))) (HOld.tick (by simp only[go_sem];omega)) ?_
 rintro ⟨i,g'⟩ d ⟨i1,i2⟩ hd
 dsimp only at i1 i2 hd
 simp only[go_sem]
 have k1:i < plN g→Pure Tryz.prog 82 [.agg (stR f),t.av,.agg g.row,.int .i64 (g.alo+(i:Nat)),.int .i64 step] (fun v=>v=.int .i64 (plc t f g (g.alo+(i:Nat)) step)):=fun hi=>c82 t f g (g.alo+(i:Nat)) step hT hG ⟨by omega,by omega⟩ hs
 repeat' (first|refine st_seq_reg rfl (by first|(simp only[go_sem];rfl)|rfl) (by first|(simp only[go_sem];rfl)|rfl) ?_|refine st_reg rfl (by first|(simp only[go_sem];rfl)|rfl) (by first|(simp only[go_sem];rfl)|rfl) ?_|refine st_op ?_|refine st_det rfl (by simp (disch:=omega) only[go_sem,wr_i64];rfl) ?_|(refine st_pureE (by first|(simp (disch:=omega) only[go_sem];rfl)|rfl) rfl (k1 (by omega)) (by first|(simp only[go_sem];rfl)|rfl) (by intro n;first|(simp (disch:=omega) only[go_sem];rfl)|rfl) ?_;intro n hn)|(refine st_yield rfl (by first|(simp (disch:=omega) only[go_sem];rfl)|(simp (disch:=omega) only[go_sem])) rfl (hy i _ (by omega) (hI i _ _ i2 (by omega))) ?_;rintro v h' ⟨rfl,hi2⟩)|refine st_condF rfl ?_|(refine st_condS rfl ?_ ?_ <;> intro hg <;> (try simp only[dcT,dcF,bnT,bnF] at hg))|refine st_nil ?_|refine st_tN ?_|refine st_seq ?_|refine st_block ?_|refine st_skip ?_|refine st_exit ?_|refine st_tE ?_|refine st_bN ?_|refine st_bH ?_)
 all_goals try (exfalso;omega)
 ·refine ⟨(i+1,h'),⟨by show i+1≤plN g;omega,hi2⟩,by show plN g - (i+1) < plN g - i;omega,(by (try (simp only[add_s,go_sem]));repeat' (first|exact trivial|refine And.intro ?_ ?_|rfl|(simp (disch:=omega) only[go_sem,if_yes,if_no,if_no];rfl)|(simp (disch:=omega) only[go_sem,if_yes,if_no,if_no]))),(by (try (simp only[add_s,go_sem]));repeat' (first|exact trivial|refine And.intro ?_ ?_|rfl|(simp (disch:=omega) only[go_sem,if_yes,if_no,if_no];rfl)|(simp (disch:=omega) only[go_sem,if_yes,if_no,if_no]))),rfl,HOld.tick (Nat.le_succ _)⟩
 ·obtain rfl:i=plN g:=by omega
  simp (disch:=omega) only[AEnd,Tryz.results81,aresK,fin,go_sem,implies_true,true_and,and_true,List.reverse_cons,List.reverse_nil]
  exact hI _ _ _ i2 (by omega)
end Go.Proofs.YtoafigpikgigaaaGreatDoor
