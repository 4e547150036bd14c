/- Contracts of functions that the claim reaches: what each call gives, told in our own logic. Conditions: those of each theorem. -/
import Derived.Test.YthjbfdfhblloiaaQ8
import Derived.Test.YthjbfdfhblloiaaQ3
open Nat (reduceAdd reduceMul reduceEqDiff reduceLeDiff)
open List (length_map)
set_option linter.all false
set_option linter.unusedSimpArgs false
set_option linter.unusedVariables false
namespace Go.Proofs.Ythjbfdfhblloiaa
open Go.Av
attribute [local irreducible] thenA blockA awp awpOps awpD awp1
set_option maxHeartbeats 8000000
set_option maxRecDepth 20000
@[go_sem] theorem toNat_pred (m:Nat):((((m+1:Nat)):Int) - 1).toNat=m:=by omega
theorem c74 (t:Tw) (c:List Int) (hc':c.length≤1000000):Pure Try.prog 74 [t.av,.lst 1 (c.map iv)] (fun v=>v=.int .i64 (cloE t c)):=by
  have k1:=c51 t
  intro h
  refine ACalls.forget (ACalls.of tab mixed Try.call74 Try.func74 rfl (fi:=⟨42,[],[2,26],none,[]⟩) rfl rfl (Nat.le_of_ble_eq_true rfl) (by decide) ?_)
  unfold startA
  simp only[go_sem]
  repeat' (first|refine st_seq_reg rfl (by first|(simp only[go_sem,length_map];rfl)|rfl) (by first|(simp only[go_sem,length_map];rfl)|rfl) ?_|refine st_op ?_|refine st_det rfl (by simp (disch:=omega) only[go_sem,wr_i64,if_yes,if_no,↓reduceIte,reduceAdd,reduceMul,reduceEqDiff,Nat.reduceBEq,reduceLeDiff,length_map];rfl) ?_|(refine st_pureE (by first|(simp (disch:=omega) only[go_sem,length_map];rfl)|rfl) rfl (k1) (by first|(simp only[go_sem,length_map];rfl)|rfl) (by intro n;first|(simp (disch:=omega) only[go_sem];rfl)|rfl) ?_;intro n hn)|(refine st_condS rfl ?_ ?_ <;> intro hg <;> (try simp only[decide_eq_true_eq,decide_eq_false_iff_not,Bool.not_eq_true',Bool.not_eq_false'] at hg))|refine st_nil ?_|refine st_tN ?_|refine st_seq ?_|refine st_block ?_|refine st_skip ?_|refine st_ret ?_|refine st_tR ?_)
  all_goals try (exfalso;omega)
  · simp (disch:=omega) only[AEnd,Try.results74,aresK,fin,go_sem,↓reduceIte,reduceEqDiff,reduceAdd,reduceLeDiff,if_yes,if_no,implies_true,true_and,and_true,List.reverse_cons,List.reverse_nil]
    unfold cloE;rw [if_pos (by omega)]
  have hE:cloE t c=errN (cloF t c) c.length:=by unfold cloE;rw [if_neg (by omega)]
  have hT:=townOk (t:=t) (by omega)
  have hsn:=hT.sn
  refine st_loopC (α:=Nat) tab mixed [] [] (by repeat (first|exact trivial|refine ⟨rfl,?_⟩)) [] [] (by repeat (first|exact trivial|refine ⟨rfl,?_⟩)) (fun i=>[(15,.int .i64 (i:Nat))]) [(0,_),(1,_),(2,_),(3,_),(13,_),(14,_)] (fun _=>[]) [] (fun i=>i≤c.length∧errN (cloF t c) i=0) (fun i=>c.length - i) (by decide) 0 ⟨by omega,rfl⟩ (by (try simp only[go_sem]);repeat' (first|exact trivial|refine And.intro ?_ ?_|rfl|(simp (disch:=omega) only[go_sem,if_yes,if_no,↓reduceIte,reduceAdd,reduceMul,reduceEqDiff,Nat.reduceBEq,reduceLeDiff];rfl)|(simp (disch:=omega) only[go_sem,if_yes,if_no,↓reduceIte,reduceAdd,reduceMul,reduceEqDiff,Nat.reduceBEq,reduceLeDiff]))) (by (try simp only[go_sem]);repeat' (first|exact trivial|refine And.intro ?_ ?_|rfl|(simp (disch:=omega) only[go_sem,if_yes,if_no,↓reduceIte,reduceAdd,reduceMul,reduceEqDiff,Nat.reduceBEq,reduceLeDiff];rfl)|(simp (disch:=omega) only[go_sem,if_yes,if_no,↓reduceIte,reduceAdd,reduceMul,reduceEqDiff,Nat.reduceBEq,reduceLeDiff]))) (by first|(simp only[go_sem];rfl)|rfl) (by intro n;simp only[go_sem];rfl) ?_
  rintro i d ⟨hi',he⟩ hd
  simp only[go_sem]
  have q1:=c68a 0 (t.sts.length - 1:Int) (elt c i)
  have e1:errN (cloF t c) (i+1)=cloF t c i:=errN_next he
  have e2:cloF t c i=if ¬ (0≤elt c i∧elt c i < t.sts.length) then 7 else if 0 < i∧elt c i≤elt c (i - 1) then 9 else 0:=rfl
  by_cases h0:0 < i
  case pos =>
    obtain ⟨m,rfl⟩:∃ m,i=m+1:=⟨i - 1,by omega⟩
    simp only[Nat.add_sub_cancel] at e2
    repeat' (first|refine st_seq_reg rfl (by first|(simp only[go_sem,length_map];rfl)|rfl) (by first|(simp only[go_sem,length_map];rfl)|rfl) ?_|refine st_reg rfl (by first|(simp only[go_sem,length_map];rfl)|rfl) (by first|(simp only[go_sem,length_map];rfl)|rfl) ?_|refine st_op ?_|refine st_det rfl (by simp (disch:=omega) only[go_sem,wr_i64,if_yes,if_no,↓reduceIte,reduceAdd,reduceMul,reduceEqDiff,Nat.reduceBEq,reduceLeDiff,length_map];rfl) ?_|(refine st_pureE (by first|(simp (disch:=omega) only[go_sem,length_map];rfl)|rfl) rfl (q1) (by first|(simp only[go_sem,length_map];rfl)|rfl) (by intro n;first|(simp (disch:=omega) only[go_sem];rfl)|rfl) ?_;intro n hn)|refine st_gT rfl rfl rfl ?_|refine st_gF rfl rfl rfl ?_|(refine st_gS rfl rfl ?_ ?_ <;> intro hg <;> (try simp only[decide_eq_true_eq,decide_eq_false_iff_not,Bool.not_eq_true',Bool.not_eq_false'] at hg))|refine st_condF rfl ?_|(refine st_condS rfl ?_ ?_ <;> intro hg <;> (try simp only[decide_eq_true_eq,decide_eq_false_iff_not,Bool.not_eq_true',Bool.not_eq_false'] at hg))|refine st_nil ?_|refine st_tN ?_|refine st_seq ?_|refine st_block ?_|refine st_skip ?_|refine st_exit ?_|refine st_ret ?_|refine st_tE ?_|refine st_tR ?_|refine st_bN ?_|refine st_bR ?_|refine st_bH ?_)
    all_goals try (exfalso;omega)
    · have hv:cloF t c (m+1)=7:=by rw [e2,if_pos (by omega)]
      simp (disch:=omega) only[AEnd,Try.results74,aresK,fin,go_sem,↓reduceIte,reduceEqDiff,reduceAdd,reduceLeDiff,if_yes,if_no,implies_true,true_and,and_true,List.reverse_cons,List.reverse_nil]
      rw [hE,errN_stop he (by omega) (by omega),hv]
    · have hv:cloF t c (m+1)=9:=by rw [e2,if_neg (by omega),if_pos (by omega)]
      simp (disch:=omega) only[AEnd,Try.results74,aresK,fin,go_sem,↓reduceIte,reduceEqDiff,reduceAdd,reduceLeDiff,if_yes,if_no,implies_true,true_and,and_true,List.reverse_cons,List.reverse_nil]
      rw [hE,errN_stop he (by omega) (by omega),hv]
    · have hv:cloF t c (m+1)=0:=by rw [e2,if_neg (by omega),if_neg (by omega)]
      refine ⟨m+1+1,⟨by omega,by omega⟩,by omega,(by repeat' (first|exact trivial|refine And.intro ?_ ?_|rfl|(simp (disch:=omega) only[go_sem,if_yes,if_no,↓reduceIte,reduceAdd,reduceMul,reduceEqDiff,Nat.reduceBEq,reduceLeDiff];rfl)|(simp (disch:=omega) only[go_sem,if_yes,if_no,↓reduceIte,reduceAdd,reduceMul,reduceEqDiff,Nat.reduceBEq,reduceLeDiff]))),(by repeat' (first|exact trivial|refine And.intro ?_ ?_|rfl|(simp (disch:=omega) only[go_sem,if_yes,if_no,↓reduceIte,reduceAdd,reduceMul,reduceEqDiff,Nat.reduceBEq,reduceLeDiff];rfl)|(simp (disch:=omega) only[go_sem,if_yes,if_no,↓reduceIte,reduceAdd,reduceMul,reduceEqDiff,Nat.reduceBEq,reduceLeDiff]))),rfl,(by first|exact HOld.of _ (by omega)|exact HOld.put _ _ _ (by omega))⟩
    · simp (disch:=omega) only[AEnd,Try.results74,aresK,fin,go_sem,↓reduceIte,reduceEqDiff,reduceAdd,reduceLeDiff,if_yes,if_no,implies_true,true_and,and_true,List.reverse_cons,List.reverse_nil]
      rw [hE,← (by omega:m+1=c.length),he]
  obtain rfl:i=0:=by omega
  case neg =>
    repeat' (first|refine st_seq_reg rfl (by first|(simp only[go_sem,length_map];rfl)|rfl) (by first|(simp only[go_sem,length_map];rfl)|rfl) ?_|refine st_reg rfl (by first|(simp only[go_sem,length_map];rfl)|rfl) (by first|(simp only[go_sem,length_map];rfl)|rfl) ?_|refine st_op ?_|refine st_det rfl (by simp (disch:=omega) only[go_sem,wr_i64,if_yes,if_no,↓reduceIte,reduceAdd,reduceMul,reduceEqDiff,Nat.reduceBEq,reduceLeDiff,length_map];rfl) ?_|(refine st_pureE (by first|(simp (disch:=omega) only[go_sem,length_map];rfl)|rfl) rfl (q1) (by first|(simp only[go_sem,length_map];rfl)|rfl) (by intro n;first|(simp (disch:=omega) only[go_sem];rfl)|rfl) ?_;intro n hn)|refine st_gF rfl rfl rfl ?_|refine st_condF rfl ?_|(refine st_condS rfl ?_ ?_ <;> intro hg <;> (try simp only[decide_eq_true_eq,decide_eq_false_iff_not,Bool.not_eq_true',Bool.not_eq_false'] at hg))|refine st_nil ?_|refine st_tN ?_|refine st_seq ?_|refine st_block ?_|refine st_skip ?_|refine st_exit ?_|refine st_ret ?_|refine st_tE ?_|refine st_tR ?_|refine st_bN ?_|refine st_bR ?_|refine st_bH ?_)
    all_goals try (exfalso;omega)
    · have hv:cloF t c (0)=7:=by rw [e2,if_pos (by omega)]
      simp (disch:=omega) only[AEnd,Try.results74,aresK,fin,go_sem,↓reduceIte,reduceEqDiff,reduceAdd,reduceLeDiff,if_yes,if_no,implies_true,true_and,and_true,List.reverse_cons,List.reverse_nil]
      rw [hE,errN_stop he (by omega) (by omega),hv]
    · have hv:cloF t c (0)=0:=by rw [e2,if_neg (by omega),if_neg (by omega)]
      refine ⟨0+1,⟨by omega,by omega⟩,by omega,(by repeat' (first|exact trivial|refine And.intro ?_ ?_|rfl|(simp (disch:=omega) only[go_sem,if_yes,if_no,↓reduceIte,reduceAdd,reduceMul,reduceEqDiff,Nat.reduceBEq,reduceLeDiff];rfl)|(simp (disch:=omega) only[go_sem,if_yes,if_no,↓reduceIte,reduceAdd,reduceMul,reduceEqDiff,Nat.reduceBEq,reduceLeDiff]))),(by repeat' (first|exact trivial|refine And.intro ?_ ?_|rfl|(simp (disch:=omega) only[go_sem,if_yes,if_no,↓reduceIte,reduceAdd,reduceMul,reduceEqDiff,Nat.reduceBEq,reduceLeDiff];rfl)|(simp (disch:=omega) only[go_sem,if_yes,if_no,↓reduceIte,reduceAdd,reduceMul,reduceEqDiff,Nat.reduceBEq,reduceLeDiff]))),rfl,(by first|exact HOld.of _ (by omega)|exact HOld.put _ _ _ (by omega))⟩
    · simp (disch:=omega) only[AEnd,Try.results74,aresK,fin,go_sem,↓reduceIte,reduceEqDiff,reduceAdd,reduceLeDiff,if_yes,if_no,implies_true,true_and,and_true,List.reverse_cons,List.reverse_nil]
      rw [hE,← (by omega:0=c.length),he]
end Go.Proofs.Ythjbfdfhblloiaa

namespace Go.Proofs.Ythjbfdfhblloiaa
open Go.Av
set_option maxRecDepth 20000
def catN {α:Type} (g:Nat→List α):Nat→List α
  | 0=>[]
  | k+1=>catN g k ++ g k
def catK (g:Nat→List (List Int)) (a:Nat):Nat→List (List Int)
  | 0=>[]
  | k+1=>catK g a k ++ g (a+k)
def chs (n:Nat):Nat→Nat→List (List Int)
  | 0,_=>[[]]
  | m+1,a=>catK (fun i=>(chs n m (i+1)).map (((i:Nat):Int) :: ·)) a (n - a)
def cls (l:List Int) (i:Nat):Int:=if l.contains ((i:Nat):Int) then 2 else 1
structure Cr where
  step:Int
  sq:Int
  most:Int
def Cr.row (x:Cr):List AV:=[.int .i64 x.step,.int .i64 x.sq,.int .i64 x.most]
@[go_sem] theorem Cr.row_eq (x:Cr):x.row=[.int .i64 x.step,.int .i64 x.sq,.int .i64 x.most]:=rfl
def crF (t:Tw) (s:Nat→Int) (st q:Nat):List Cr:=if elt t.rooms q < ldHi t s (q:Nat) (st:Nat) then [⟨(st:Nat),(q:Nat),ldHi t s (q:Nat) (st:Nat)⟩] else []
def crS (t:Tw) (s:Nat→Int) (st:Nat):List Cr:=catN (crF t s st) t.rooms.length
def crL (t:Tw) (s:Nat→Int):List Cr:=catN (crS t s) (t.steps+1).toNat
def chsAll (n most:Nat):List (List Int):=catN (fun m=>chs n m 0) (min most n+1)
def clo (t:Tw) (most:Nat):Option (List Int):=(chsAll t.sts.length most).find? fun l=>(crL t (cls l)).isEmpty
structure Rn where
  kind:Int
  st:Int
  sq:Int
  step:Int
  deriving DecidableEq
def Rn.row (x:Rn):List AV:=[.int .i64 x.kind,.int .i64 x.st,.int .i64 x.sq,.int .i64 x.step]
@[go_sem] theorem Rn.row_eq (x:Rn):x.row=[.int .i64 x.kind,.int .i64 x.st,.int .i64 x.sq,.int .i64 x.step]:=rfl
def shN (s:List Int):Int:=sumF (fun i=>if elt s i=2 then 1 else 0) s.length
def und (t:Tw) (s:List Int):Option Nat:=(List.range t.sts.length).find? fun i=>decide (elt s i=0)
def prv (t:Tw) (most:Int):Nat→List Int→List Rn
  | 0,_=>[]
  | k+1,s=>if most < shN s then [⟨3,0,0,0⟩] else match (crL t (elt s)).head? with
    | some x=>[⟨2,0,x.sq,x.step⟩]
    | none=>match und t s with
      | none=>[]
      | some i=>⟨1,(i:Nat),0,0⟩ :: (prv t most k (s.set i 1) ++ prv t most k (s.set i 2))
def pvd (t:Tw) (most:Int):Nat→List Int→List Rn→Option (List Rn)
  | 0,_,_=>none
  | _+1,_,[]=>none
  | k+1,s,r :: rest =>
    if r=⟨3,0,0,0⟩ then (if most < shN s then some rest else none)
    else if r.kind=2∧r.st=0 then (if 0≤r.sq∧r.sq < t.rooms.length∧0≤r.step∧r.step≤t.steps∧elt t.rooms r.sq.toNat < ldHi t (elt s) r.sq r.step then some rest else none)
    else if r.kind=1∧r.sq=0∧r.step=0 then
      (if 0≤r.st∧r.st < t.sts.length∧elt s r.st.toNat=0 then match pvd t most k (s.set r.st.toNat 1) rest with
        | none=>none
        | some r2=>pvd t most k (s.set r.st.toNat 2) r2
       else none)
    else none
end Go.Proofs.Ythjbfdfhblloiaa

namespace Go.Proofs.Ythjbfdfhblloiaa
open Go.Av
attribute [local irreducible] thenA blockA awp awpOps awpD awp1
set_option maxHeartbeats 8000000
set_option maxRecDepth 20000
def stR (f:Nat→Int):List AV:=(List.range 12).map fun i=>.int .i64 (f i)
@[go_sem] theorem stR_len (f:Nat→Int):(stR f).length=12:=by simp [stR]
@[go_sem] theorem stR_get (f:Nat→Int) (i:Nat) (h:i < 12):(stR f)[i]?=some (.int .i64 (f i)):=by
  unfold stR;rw [List.getElem?_map,List.getElem?_range h];rfl
theorem stR_ext {f g:Nat→Int} (h:∀ i,i < 12→f i=g i):stR f=stR g:=by
  unfold stR
  apply List.map_congr_left
  intro i hi
  rw [h i (by simpa using hi)]
theorem stR_set (f:Nat→Int) (i:Nat) (v:Int):(stR f).set i (.int .i64 v)=stR (upd f i v):=by
  apply List.ext_getElem?
  intro j
  rw [List.getElem?_set]
  by_cases hj:j < 12
  · rw [stR_get _ _ hj]
    by_cases e:i=j
    · subst e;rw [if_pos rfl,if_pos (by rw [stR_len];exact hj),stR_get _ _ hj];simp [upd]
    · rw [if_neg e,stR_get _ _ hj];simp [upd,Ne.symm e]
  · have h1:(stR (upd f i v))[j]?=none:=List.getElem?_eq_none (by rw [stR_len];omega)
    have h2:(stR f)[j]?=none:=List.getElem?_eq_none (by rw [stR_len];omega)
    rw [h1]
    split
    · rw [if_neg (by rw [stR_len];omega)]
    · exact h2
theorem stR_put (f:Nat→Int) (i:Nat) (v:Int) (hi:i < 12):List.take i (stR f) ++ [AV.int .i64 v] ++ List.drop (i+1) (stR f)=stR (upd f i v):=by
  rw [← stR_set,List.set_eq_take_append_cons_drop,if_pos (by rw [stR_len];exact hi),List.append_assoc];rfl
@[go_sem] theorem stR_take (f:Nat→Int):List.take 12 (stR f)=stR f:=List.take_of_length_le (by rw [stR_len];omega)
@[go_sem] theorem stR_apart (f:Nat→Int):apart true 12 0 (stR f)=some (.agg (stR f)):=by
  unfold apart;rw [if_pos rfl,if_pos (by rw [stR_len];omega),List.drop_zero,stR_take]
@[go_sem] theorem stR_apartI (f:Nat→Int) (i:Nat) (h:i < 12):apart false 1 i (stR f)=some (.int .i64 (f i)):=by
  unfold apart;rw [if_neg (by simp),stR_get _ _ h]
@[go_sem] theorem stR_all (f:Nat→Int):(stR f).all AV.cell=true:=by
  rw [List.all_eq_true];intro x hx
  unfold stR at hx
  rw [List.mem_map] at hx
  obtain ⟨i,_,rfl⟩:=hx
  rfl
theorem c72 (f:Nat→Int) (i v:Int) (hi:0≤i∧i < 12):Pure Try.prog 72 [.agg (stR f),.int .i64 i,.int .i64 v] (fun x=>x=.agg (stR (upd f i.toNat v))):=by
  intro h
  refine ACalls.forget (ACalls.of tab mixed Try.call72 Try.func72 rfl (fi:=⟨11,[3,6],[],none,[]⟩) rfl rfl (Nat.le_of_ble_eq_true rfl) (by decide) ?_)
  unfold startA
  repeat' (first|refine st_seq_reg rfl (by first|(simp only[go_sem,stR_put,Nat.zero_add];rfl)|rfl) (by first|(simp only[go_sem,stR_put,Nat.zero_add];rfl)|rfl) ?_|refine st_op ?_|refine st_det rfl (by simp (disch:=omega) only[go_sem,wr_i64,if_yes,if_no,↓reduceIte,reduceAdd,reduceMul,reduceEqDiff,Nat.reduceBEq,reduceLeDiff,stR_put,Nat.zero_add];rfl) ?_|refine st_loc rfl (by simp (disch:=omega) only[go_sem,wr_i64,if_yes,if_no,↓reduceIte,reduceAdd,reduceMul,reduceEqDiff,Nat.reduceBEq,reduceLeDiff,stR_put,Nat.zero_add];rfl) ?_|refine st_store (by simp (disch:=omega) only[go_sem,wr_i64,if_yes,if_no,↓reduceIte,reduceAdd,reduceMul,reduceEqDiff,Nat.reduceBEq,reduceLeDiff,stR_put,Nat.zero_add];rfl) ?_|refine st_nil ?_|refine st_ret ?_)
  simp (disch:=omega) only[AEnd,Try.results72,aresK,fin,go_sem,↓reduceIte,reduceEqDiff,reduceAdd,reduceLeDiff,if_yes,if_no,implies_true,true_and,and_true,List.reverse_cons,List.reverse_nil]
  simp only[List.append_nil,go_sem,Nat.le_refl,if_true]
  try rfl
theorem cls_next (c:List Int) (i:Nat) (hi:i < c.length) (h0:0≤elt c i):upd (cls (c.take i)) (elt c i).toNat 2=cls (c.take (i+1)):=by
  have e:c.take (i+1)=c.take i ++ [elt c i]:=by
    rw [List.take_add_one,List.getElem?_eq_getElem hi]
    simp [elt,List.getD_eq_getElem?_getD,hi]
  funext j
  unfold cls upd
  rw [e]
  by_cases hj:j=(elt c i).toNat
  · rw [if_pos hj,if_pos]
    rw [List.contains_iff_mem,List.mem_append]
    right;simp;omega
  · rw [if_neg hj]
    have:(c.take i ++ [elt c i]).contains ((j:Nat):Int)=(c.take i).contains ((j:Nat):Int):=by
      rw [Bool.eq_iff_iff,List.contains_iff_mem,List.contains_iff_mem,List.mem_append]
      constructor
      · rintro (h|h)
        · exact h
        · simp at h;omega
      · exact .inl
    rw [this]
theorem c83 (c:List Int) (hc':c.length≤1000000) (hb:∀ i,i < c.length→0≤elt c i∧elt c i < 12):Pure Try.prog 83 [.lst 1 (c.map iv)] (fun x=>x=.agg (stR (cls c))):=by
  have g0:stR (fun j=>if j < 12 then 1 else 0)=stR (cls (c.take 0)):=stR_ext fun i hi=>by
    show (if i < 12 then (1:Int) else 0)=if ([]:List Int).contains _ then 2 else 1
    rw [if_pos hi,if_neg (by simp)]
  intro h
  refine ACalls.forget (ACalls.of tab mixed Try.call83 Try.func83 rfl (fi:=⟨23,[2,3],[],none,[]⟩) rfl rfl (Nat.le_of_ble_eq_true rfl) (by decide) ?_)
  unfold startA
  repeat' (first|refine st_seq_reg rfl (by first|(simp only[go_sem];rfl)|rfl) (by first|(simp only[go_sem];rfl)|rfl) ?_|refine st_op ?_|refine st_det rfl (by simp (disch:=omega) only[go_sem,wr_i64,if_yes,if_no,↓reduceIte,reduceAdd,reduceMul,reduceEqDiff,Nat.reduceBEq,reduceLeDiff];rfl) ?_|refine st_loc rfl (by simp (disch:=omega) only[go_sem,wr_i64,if_yes,if_no,↓reduceIte,reduceAdd,reduceMul,reduceEqDiff,Nat.reduceBEq,reduceLeDiff];rfl) ?_|refine st_nil ?_|refine st_seq ?_|refine st_block ?_)
  refine st_loopC (α:=Nat) tab mixed [3] [_] (by repeat (first|exact trivial|refine ⟨rfl,?_⟩)) [2] [_] (by repeat (first|exact trivial|refine ⟨rfl,?_⟩)) (fun i=>[(7,.int .i64 (i:Nat))]) [(0,_),(2,_),(3,_)] (fun i=>[stR (fun j=>if j < i then 1 else 0)]) [_] (fun i=>i≤12) (fun i=>12 - i) (by decide) 0 (by omega) (by (try simp only[go_sem]);repeat' (first|exact trivial|refine And.intro ?_ ?_|rfl|(simp (disch:=omega) only[go_sem,if_yes,if_no,↓reduceIte,reduceAdd,reduceMul,reduceEqDiff,Nat.reduceBEq,reduceLeDiff];rfl)|(simp (disch:=omega) only[go_sem,if_yes,if_no,↓reduceIte,reduceAdd,reduceMul,reduceEqDiff,Nat.reduceBEq,reduceLeDiff]))) (by (try simp only[go_sem]);repeat' (first|exact trivial|refine And.intro ?_ ?_|rfl|(simp (disch:=omega) only[go_sem,if_yes,if_no,↓reduceIte,reduceAdd,reduceMul,reduceEqDiff,Nat.reduceBEq,reduceLeDiff];rfl)|(simp (disch:=omega) only[go_sem,if_yes,if_no,↓reduceIte,reduceAdd,reduceMul,reduceEqDiff,Nat.reduceBEq,reduceLeDiff]))) (by first|(simp only[go_sem];rfl)|rfl) (by intro n;simp only[go_sem];rfl) ?_
  rintro i d hi' hd
  simp only[go_sem]
  by_cases hi:i < 12
  case pos =>
    have g1:stR (upd (fun j=>if j < i then 1 else 0) i 1)=stR (fun j=>if j < i+1 then 1 else 0):=stR_ext fun j _=>by
      simp only[upd]
      by_cases e:j=i
      · rw [if_pos e,if_pos (by omega)]
      · rw [if_neg e]
        by_cases e2:j < i
        · rw [if_pos e2,if_pos (by omega)]
        · rw [if_neg e2,if_neg (by omega)]
    repeat' (first|refine st_seq_reg rfl (by first|(simp only[go_sem,stR_put,Nat.zero_add,g1];rfl)|rfl) (by first|(simp only[go_sem,stR_put,Nat.zero_add,g1];rfl)|rfl) ?_|refine st_reg rfl (by first|(simp only[go_sem,stR_put,Nat.zero_add,g1];rfl)|rfl) (by first|(simp only[go_sem,stR_put,Nat.zero_add,g1];rfl)|rfl) ?_|refine st_op ?_|refine st_det rfl (by simp (disch:=omega) only[go_sem,wr_i64,if_yes,if_no,↓reduceIte,reduceAdd,reduceMul,reduceEqDiff,Nat.reduceBEq,reduceLeDiff,stR_put,Nat.zero_add,g1];rfl) ?_|refine st_store (by simp (disch:=omega) only[go_sem,wr_i64,if_yes,if_no,↓reduceIte,reduceAdd,reduceMul,reduceEqDiff,Nat.reduceBEq,reduceLeDiff,stR_put,Nat.zero_add,g1];rfl) ?_|(refine st_condS rfl ?_ ?_ <;> intro hg <;> (try simp only[decide_eq_true_eq,decide_eq_false_iff_not,Bool.not_eq_true',Bool.not_eq_false'] at hg))|refine st_nil ?_|refine st_tN ?_|refine st_seq ?_|refine st_block ?_|refine st_skip ?_|refine st_exit ?_|refine st_tE ?_|refine st_bN ?_|refine st_bH ?_)
    all_goals try (exfalso;omega)
    refine ⟨i+1,by show i+1≤12;omega,by show 12 - (i+1) < 12 - i;omega,(by repeat' (first|exact trivial|refine And.intro ?_ ?_|rfl|(simp (disch:=omega) only[go_sem,if_yes,if_no,↓reduceIte,reduceAdd,reduceMul,reduceEqDiff,Nat.reduceBEq,reduceLeDiff];rfl)|(simp (disch:=omega) only[go_sem,if_yes,if_no,↓reduceIte,reduceAdd,reduceMul,reduceEqDiff,Nat.reduceBEq,reduceLeDiff]))),(by repeat' (first|exact trivial|refine And.intro ?_ ?_|rfl|(simp (disch:=omega) only[go_sem,if_yes,if_no,↓reduceIte,reduceAdd,reduceMul,reduceEqDiff,Nat.reduceBEq,reduceLeDiff];rfl)|(simp (disch:=omega) only[go_sem,if_yes,if_no,↓reduceIte,reduceAdd,reduceMul,reduceEqDiff,Nat.reduceBEq,reduceLeDiff]))),rfl,(by first|exact HOld.of _ (by omega)|exact HOld.put _ _ _ (by omega))⟩
  obtain rfl:i=12:=by omega
  rw [g0]
  repeat' (first|refine st_seq_reg rfl (by first|(simp only[go_sem,length_map];rfl)|rfl) (by first|(simp only[go_sem,length_map];rfl)|rfl) ?_|refine st_op ?_|refine st_det rfl (by simp (disch:=omega) only[go_sem,wr_i64,if_yes,if_no,↓reduceIte,reduceAdd,reduceMul,reduceEqDiff,Nat.reduceBEq,reduceLeDiff,length_map];rfl) ?_|refine st_condF rfl ?_|refine st_nil ?_|refine st_tN ?_|refine st_seq ?_|refine st_block ?_|refine st_exit ?_|refine st_tE ?_|refine st_bH ?_)
  all_goals try (exfalso;omega)
  refine st_loopC (α:=Nat) tab mixed [3] [_] (by repeat (first|exact trivial|refine ⟨rfl,?_⟩)) [2] [_] (by repeat (first|exact trivial|refine ⟨rfl,?_⟩)) (fun i=>[(15,.int .i64 (i:Nat))]) [(0,_),(2,_),(3,_),(13,_),(14,_)] (fun i=>[stR (cls (c.take i))]) [_] (fun i=>i≤c.length) (fun i=>c.length - i) (by decide) 0 (Nat.zero_le _) (by (try simp only[go_sem]);repeat' (first|exact trivial|refine And.intro ?_ ?_|rfl|(simp (disch:=omega) only[go_sem,if_yes,if_no,↓reduceIte,reduceAdd,reduceMul,reduceEqDiff,Nat.reduceBEq,reduceLeDiff];rfl)|(simp (disch:=omega) only[go_sem,if_yes,if_no,↓reduceIte,reduceAdd,reduceMul,reduceEqDiff,Nat.reduceBEq,reduceLeDiff]))) (by (try simp only[go_sem]);repeat' (first|exact trivial|refine And.intro ?_ ?_|rfl|(simp (disch:=omega) only[go_sem,if_yes,if_no,↓reduceIte,reduceAdd,reduceMul,reduceEqDiff,Nat.reduceBEq,reduceLeDiff];rfl)|(simp (disch:=omega) only[go_sem,if_yes,if_no,↓reduceIte,reduceAdd,reduceMul,reduceEqDiff,Nat.reduceBEq,reduceLeDiff]))) (by first|(simp only[go_sem];rfl)|rfl) (by intro n;simp only[go_sem];rfl) ?_
  rintro i e hi' he
  simp only[go_sem]
  by_cases hi:i < c.length
  case pos =>
    have b1:=hb i hi
    have g2:=cls_next c i hi b1.1
    repeat' (first|refine st_seq_reg rfl (by first|(simp only[go_sem,length_map,stR_put,Nat.zero_add,g2];rfl)|rfl) (by first|(simp only[go_sem,length_map,stR_put,Nat.zero_add,g2];rfl)|rfl) ?_|refine st_reg rfl (by first|(simp only[go_sem,length_map,stR_put,Nat.zero_add,g2];rfl)|rfl) (by first|(simp only[go_sem,length_map,stR_put,Nat.zero_add,g2];rfl)|rfl) ?_|refine st_op ?_|refine st_det rfl (by simp (disch:=omega) only[go_sem,wr_i64,if_yes,if_no,↓reduceIte,reduceAdd,reduceMul,reduceEqDiff,Nat.reduceBEq,reduceLeDiff,length_map,stR_put,Nat.zero_add,g2];rfl) ?_|refine st_store (by simp (disch:=omega) only[go_sem,wr_i64,if_yes,if_no,↓reduceIte,reduceAdd,reduceMul,reduceEqDiff,Nat.reduceBEq,reduceLeDiff,length_map,stR_put,Nat.zero_add,g2];rfl) ?_|(refine st_condS rfl ?_ ?_ <;> intro hg <;> (try simp only[decide_eq_true_eq,decide_eq_false_iff_not,Bool.not_eq_true',Bool.not_eq_false'] at hg))|refine st_nil ?_|refine st_tN ?_|refine st_seq ?_|refine st_block ?_|refine st_skip ?_|refine st_exit ?_|refine st_ret ?_|refine st_tE ?_|refine st_bN ?_|refine st_bH ?_)
    all_goals try (exfalso;omega)
    refine ⟨i+1,by show i+1≤_;omega,by show c.length - (i+1) < c.length - i;omega,(by repeat' (first|exact trivial|refine And.intro ?_ ?_|rfl|(simp (disch:=omega) only[go_sem,if_yes,if_no,↓reduceIte,reduceAdd,reduceMul,reduceEqDiff,Nat.reduceBEq,reduceLeDiff];rfl)|(simp (disch:=omega) only[go_sem,if_yes,if_no,↓reduceIte,reduceAdd,reduceMul,reduceEqDiff,Nat.reduceBEq,reduceLeDiff]))),(by repeat' (first|exact trivial|refine And.intro ?_ ?_|rfl|(simp (disch:=omega) only[go_sem,if_yes,if_no,↓reduceIte,reduceAdd,reduceMul,reduceEqDiff,Nat.reduceBEq,reduceLeDiff];rfl)|(simp (disch:=omega) only[go_sem,if_yes,if_no,↓reduceIte,reduceAdd,reduceMul,reduceEqDiff,Nat.reduceBEq,reduceLeDiff]))),rfl,(by first|exact HOld.of _ (by omega)|exact HOld.put _ _ _ (by omega))⟩
  obtain rfl:i=c.length:=by omega
  repeat' (first|refine st_seq_reg rfl (by first|(simp only[go_sem,length_map,List.take_length];rfl)|rfl) (by first|(simp only[go_sem,length_map,List.take_length];rfl)|rfl) ?_|refine st_reg rfl (by first|(simp only[go_sem,length_map,List.take_length];rfl)|rfl) (by first|(simp only[go_sem,length_map,List.take_length];rfl)|rfl) ?_|refine st_op ?_|refine st_det rfl (by simp (disch:=omega) only[go_sem,wr_i64,if_yes,if_no,↓reduceIte,reduceAdd,reduceMul,reduceEqDiff,Nat.reduceBEq,reduceLeDiff,length_map,List.take_length];rfl) ?_|refine st_store (by simp (disch:=omega) only[go_sem,wr_i64,if_yes,if_no,↓reduceIte,reduceAdd,reduceMul,reduceEqDiff,Nat.reduceBEq,reduceLeDiff,length_map,List.take_length];rfl) ?_|(refine st_condS rfl ?_ ?_ <;> intro hg <;> (try simp only[decide_eq_true_eq,decide_eq_false_iff_not,Bool.not_eq_true',Bool.not_eq_false'] at hg))|refine st_nil ?_|refine st_tN ?_|refine st_seq ?_|refine st_block ?_|refine st_skip ?_|refine st_exit ?_|refine st_ret ?_|refine st_tE ?_|refine st_bN ?_|refine st_bH ?_)
  all_goals try (exfalso;omega)
  simp (disch:=omega) only[AEnd,Try.results83,aresK,fin,go_sem,↓reduceIte,reduceEqDiff,reduceAdd,reduceLeDiff,if_yes,if_no,implies_true,true_and,and_true,List.reverse_cons,List.reverse_nil]
  simp only[List.append_nil,go_sem,Nat.le_refl,if_true]
  try rfl
theorem wlk_next {t:Tw} {f:Nat→Int} {p:List Int} {i k:Nat} {q:Int} (hi:i < p.length) (hk:¬ k=i) (h1:i≤k) (h2:f (elt p i).toNat=1 ∨ (¬ f (elt p i).toNat=0∧¬ f (elt p i).toNat=2)) :
    wlk t f (p.drop i) (k - i) q=wlk t f (p.drop (i+1)) (k - (i+1)) (oth (sx t.sts (elt p i).toNat) q):=by
  rw [drop_getD 0 hi]
  obtain ⟨m,hm⟩:∃ m,k - i=m+1:=⟨k - i - 1,by omega⟩
  rw [hm,(by omega:k - (i+1)=m)]
  show (if f (elt p i).toNat=0 then _ else if f (elt p i).toNat=2 then _ else _)=_
  rw [if_neg (by omega),if_neg (by omega)]
  rfl
theorem wlk_zero {t:Tw} {f:Nat→Int} {p:List Int} {i k:Nat} {q:Int} (hi:i < p.length) (hk:¬ k=i) (h1:i≤k) (h2:f (elt p i).toNat=0):wlk t f (p.drop i) (k - i) q = -2:=by
  rw [drop_getD 0 hi]
  obtain ⟨m,hm⟩:∃ m,k - i=m+1:=⟨k - i - 1,by omega⟩
  rw [hm]
  show (if f (elt p i).toNat=0 then _ else if f (elt p i).toNat=2 then _ else _)=_
  rw [if_pos h2]
theorem wlk_two {t:Tw} {f:Nat→Int} {p:List Int} {i k:Nat} {q:Int} (hi:i < p.length) (hk:¬ k=i) (h1:i≤k) (h2:f (elt p i).toNat=2):wlk t f (p.drop i) (k - i) q=q:=by
  rw [drop_getD 0 hi]
  obtain ⟨m,hm⟩:∃ m,k - i=m+1:=⟨k - i - 1,by omega⟩
  rw [hm]
  show (if f (elt p i).toNat=0 then _ else if f (elt p i).toNat=2 then _ else _)=_
  rw [if_neg (by omega),if_pos h2]
theorem wlk_stop {t:Tw} {f:Nat→Int} {p:List Int} {i:Nat} {q:Int} (hi:i < p.length):wlk t f (p.drop i) 0 q=q:=by
  rw [drop_getD 0 hi];rfl
theorem many_bd {s c k:Int} (h1:0≤s - c) (h2:s - c≤96) (h3:1≤k):0≤(s - c).tdiv k∧(s - c).tdiv k≤96:=by
  rw [Int.tdiv_eq_ediv_of_nonneg h1]
  exact ⟨Int.ediv_nonneg h1 (by omega),Int.le_trans (Int.ediv_le_self _ h1) h2⟩
theorem c107 (t:Tw) (f:Nat→Int) (g:Gp) (came step:Int) (hT:TwOk t) (hG:GpOk t g) (hc':0≤came∧came≤96) (hs':0≤step∧step≤96):Pure Try.prog 107 [.agg (stR f),t.av,.agg g.row,.int .i64 came,.int .i64 step] (fun v=>v=.int .i64 (plc t f g came step)):=by
  have hst:=hG.stay
  have hsn:=hT.sn
  have hmy:=hG.many
  by_cases h0:step < came
  · intro h
    refine ACalls.forget (ACalls.of tab mixed Try.call107 Try.func107 rfl (fi:=⟨60,[],[5,6,7],none,[]⟩) rfl rfl (Nat.le_of_ble_eq_true rfl) (by decide) ?_)
    unfold startA
    simp only[go_sem]
    repeat' (first|refine st_seq_reg rfl (by first|(simp only[go_sem];rfl)|rfl) (by first|(simp only[go_sem];rfl)|rfl) ?_|refine st_op ?_|refine st_det rfl (by simp (disch:=omega) only[go_sem,wr_i64,if_yes,if_no,↓reduceIte,reduceAdd,reduceMul,reduceEqDiff,Nat.reduceBEq,reduceLeDiff];rfl) ?_|(refine st_condS rfl ?_ ?_ <;> intro hg <;> (try simp only[decide_eq_true_eq,decide_eq_false_iff_not,Bool.not_eq_true',Bool.not_eq_false'] at hg))|refine st_nil ?_|refine st_tN ?_|refine st_seq ?_|refine st_skip ?_|refine st_ret ?_|refine st_tR ?_)
    all_goals try (exfalso;omega)
    simp (disch:=omega) only[AEnd,Try.results107,aresK,fin,go_sem,↓reduceIte,reduceEqDiff,reduceAdd,reduceLeDiff,if_yes,if_no,implies_true,true_and,and_true,List.reverse_cons,List.reverse_nil]
    unfold plc;rw [if_pos h0]
  have hm:=many_bd (s:=step) (c:=came) (k:=g.stay) (by omega) (by omega) hst.1
  have hP:plc t f g came step=wlk t f g.path ((step - came).tdiv g.stay).toNat g.first:=by unfold plc;rw [if_neg h0]
  intro h
  refine ACalls.forget (ACalls.of tab mixed Try.call107 Try.func107 rfl (fi:=⟨60,[],[5,6,7],none,[]⟩) rfl rfl (Nat.le_of_ble_eq_true rfl) (by decide) ?_)
  unfold startA
  simp only[go_sem]
  repeat' (first|refine st_seq_reg rfl (by first|(simp only[go_sem,length_map];rfl)|rfl) (by first|(simp only[go_sem,length_map];rfl)|rfl) ?_|refine st_op ?_|refine st_det rfl (by simp (disch:=omega) only[go_sem,wr_i64,if_yes,if_no,↓reduceIte,reduceAdd,reduceMul,reduceEqDiff,Nat.reduceBEq,reduceLeDiff,length_map];rfl) ?_|(refine st_condS rfl ?_ ?_ <;> intro hg <;> (try simp only[decide_eq_true_eq,decide_eq_false_iff_not,Bool.not_eq_true',Bool.not_eq_false'] at hg))|refine st_nil ?_|refine st_tN ?_|refine st_seq ?_|refine st_block ?_|refine st_skip ?_|refine st_ret ?_|refine st_tR ?_)
  all_goals try (exfalso;omega)
  generalize hk:(step - came).tdiv g.stay=k at *
  obtain ⟨k,rfl⟩:∃ m:Nat,k=m:=⟨k.toNat,by omega⟩
  refine st_loopC (α:=Nat × Int) tab mixed [] [] (by repeat (first|exact trivial|refine ⟨rfl,?_⟩)) [] [] (by repeat (first|exact trivial|refine ⟨rfl,?_⟩)) (fun a=>[(29,.int .i64 (a.1:Nat)),(11,.int .i64 a.2)]) [(0,_),(1,_),(2,_),(3,_),(4,_),(5,_),(6,_),(7,_),(12,_),(27,_),(28,_)] (fun _=>[]) [] (fun a=>a.1≤g.path.length∧a.1≤k∧wlk t f (g.path.drop a.1) (k - a.1) a.2=plc t f g came step) (fun a=>g.path.length - a.1) (by decide) (0,g.first) ⟨Nat.zero_le _,Nat.zero_le _,by rw [hP];rfl⟩ (by (try simp only[go_sem]);repeat' (first|exact trivial|refine And.intro ?_ ?_|rfl|(simp (disch:=omega) only[go_sem,if_yes,if_no,↓reduceIte,reduceAdd,reduceMul,reduceEqDiff,Nat.reduceBEq,reduceLeDiff];rfl)|(simp (disch:=omega) only[go_sem,if_yes,if_no,↓reduceIte,reduceAdd,reduceMul,reduceEqDiff,Nat.reduceBEq,reduceLeDiff]))) (by (try simp only[go_sem]);repeat' (first|exact trivial|refine And.intro ?_ ?_|rfl|(simp (disch:=omega) only[go_sem,if_yes,if_no,↓reduceIte,reduceAdd,reduceMul,reduceEqDiff,Nat.reduceBEq,reduceLeDiff];rfl)|(simp (disch:=omega) only[go_sem,if_yes,if_no,↓reduceIte,reduceAdd,reduceMul,reduceEqDiff,Nat.reduceBEq,reduceLeDiff]))) (by first|(simp only[go_sem];rfl)|rfl) (by intro n;simp only[go_sem];rfl) ?_
  rintro ⟨i,q⟩ d ⟨i1,i2,i3⟩ hd
  dsimp only at i1 i2 i3
  simp only[go_sem]
  have q2:=c76 (sx t.sts (elt g.path i).toNat) q
  by_cases hi:i < g.path.length
  case pos =>
    have ha:=hG.st i hi
    by_cases hki:k=i
    · subst hki
      repeat' (first|refine st_seq_reg rfl (by first|(simp only[go_sem,length_map,Nat.zero_add];rfl)|rfl) (by first|(simp only[go_sem,length_map,Nat.zero_add];rfl)|rfl) ?_|refine st_op ?_|refine st_det rfl (by simp (disch:=omega) only[go_sem,wr_i64,if_yes,if_no,↓reduceIte,reduceAdd,reduceMul,reduceEqDiff,Nat.reduceBEq,reduceLeDiff,length_map,Nat.zero_add];rfl) ?_|refine st_condT rfl ?_|(refine st_condS rfl ?_ ?_ <;> intro hg <;> (try simp only[decide_eq_true_eq,decide_eq_false_iff_not,Bool.not_eq_true',Bool.not_eq_false'] at hg))|refine st_nil ?_|refine st_tN ?_|refine st_seq ?_|refine st_block ?_|refine st_skip ?_|refine st_exit ?_|refine st_ret ?_|refine st_tE ?_|refine st_tR ?_|refine st_bR ?_|refine st_bH ?_)
      all_goals try (exfalso;omega)
      simp (disch:=omega) only[AEnd,Try.results107,aresK,fin,go_sem,↓reduceIte,reduceEqDiff,reduceAdd,reduceLeDiff,if_yes,if_no,implies_true,true_and,and_true,List.reverse_cons,List.reverse_nil]
      rw [← i3,Nat.sub_self,wlk_stop hi]
    by_cases s0:f (elt g.path i).toNat=0
    · repeat' (first|refine st_seq_reg rfl (by first|(simp only[go_sem,length_map,Nat.zero_add];rfl)|rfl) (by first|(simp only[go_sem,length_map,Nat.zero_add];rfl)|rfl) ?_|refine st_reg rfl (by first|(simp only[go_sem,length_map,Nat.zero_add];rfl)|rfl) (by first|(simp only[go_sem,length_map,Nat.zero_add];rfl)|rfl) ?_|refine st_op ?_|refine st_det rfl (by simp (disch:=omega) only[go_sem,wr_i64,if_yes,if_no,↓reduceIte,reduceAdd,reduceMul,reduceEqDiff,Nat.reduceBEq,reduceLeDiff,length_map,Nat.zero_add];rfl) ?_|(refine st_condS rfl ?_ ?_ <;> intro hg <;> (try simp only[decide_eq_true_eq,decide_eq_false_iff_not,Bool.not_eq_true',Bool.not_eq_false'] at hg))|refine st_nil ?_|refine st_tN ?_|refine st_seq ?_|refine st_block ?_|refine st_skip ?_|refine st_exit ?_|refine st_ret ?_|refine st_tE ?_|refine st_tR ?_|refine st_bN ?_|refine st_bR ?_|refine st_bH ?_)
      all_goals try (exfalso;omega)
      simp (disch:=omega) only[AEnd,Try.results107,aresK,fin,go_sem,↓reduceIte,reduceEqDiff,reduceAdd,reduceLeDiff,if_yes,if_no,implies_true,true_and,and_true,List.reverse_cons,List.reverse_nil]
      rw [← i3,wlk_zero hi hki i2 s0]
    by_cases s2:f (elt g.path i).toNat=2
    · repeat' (first|refine st_seq_reg rfl (by first|(simp only[go_sem,length_map,Nat.zero_add];rfl)|rfl) (by first|(simp only[go_sem,length_map,Nat.zero_add];rfl)|rfl) ?_|refine st_reg rfl (by first|(simp only[go_sem,length_map,Nat.zero_add];rfl)|rfl) (by first|(simp only[go_sem,length_map,Nat.zero_add];rfl)|rfl) ?_|refine st_op ?_|refine st_det rfl (by simp (disch:=omega) only[go_sem,wr_i64,if_yes,if_no,↓reduceIte,reduceAdd,reduceMul,reduceEqDiff,Nat.reduceBEq,reduceLeDiff,length_map,Nat.zero_add];rfl) ?_|(refine st_condS rfl ?_ ?_ <;> intro hg <;> (try simp only[decide_eq_true_eq,decide_eq_false_iff_not,Bool.not_eq_true',Bool.not_eq_false'] at hg))|refine st_nil ?_|refine st_tN ?_|refine st_seq ?_|refine st_block ?_|refine st_skip ?_|refine st_exit ?_|refine st_ret ?_|refine st_tE ?_|refine st_tR ?_|refine st_bN ?_|refine st_bR ?_|refine st_bH ?_)
      all_goals try (exfalso;omega)
      simp (disch:=omega) only[AEnd,Try.results107,aresK,fin,go_sem,↓reduceIte,reduceEqDiff,reduceAdd,reduceLeDiff,if_yes,if_no,implies_true,true_and,and_true,List.reverse_cons,List.reverse_nil]
      rw [← i3,wlk_two hi hki i2 s2]
    repeat' (first|refine st_seq_reg rfl (by first|(simp only[go_sem,length_map,Nat.zero_add];rfl)|rfl) (by first|(simp only[go_sem,length_map,Nat.zero_add];rfl)|rfl) ?_|refine st_reg rfl (by first|(simp only[go_sem,length_map,Nat.zero_add];rfl)|rfl) (by first|(simp only[go_sem,length_map,Nat.zero_add];rfl)|rfl) ?_|refine st_op ?_|refine st_det rfl (by simp (disch:=omega) only[go_sem,wr_i64,if_yes,if_no,↓reduceIte,reduceAdd,reduceMul,reduceEqDiff,Nat.reduceBEq,reduceLeDiff,length_map,Nat.zero_add];rfl) ?_|(refine st_pureE (by first|(simp (disch:=omega) only[go_sem,length_map,Nat.zero_add];rfl)|rfl) rfl (q2) (by first|(simp only[go_sem,length_map,Nat.zero_add];rfl)|rfl) (by intro n;first|(simp (disch:=omega) only[go_sem];rfl)|rfl) ?_;intro n hn)|(refine st_condS rfl ?_ ?_ <;> intro hg <;> (try simp only[decide_eq_true_eq,decide_eq_false_iff_not,Bool.not_eq_true',Bool.not_eq_false'] at hg))|refine st_nil ?_|refine st_tN ?_|refine st_seq ?_|refine st_block ?_|refine st_skip ?_|refine st_exit ?_|refine st_ret ?_|refine st_tE ?_|refine st_tR ?_|refine st_bN ?_|refine st_bR ?_|refine st_bH ?_)
    all_goals try (exfalso;omega)
    refine ⟨(i+1,oth (sx t.sts (elt g.path i).toNat) q),⟨by show i+1≤_;omega,by show i+1≤k;omega,by rw [← i3,wlk_next hi hki i2 (.inr ⟨s0,s2⟩)]⟩,by show g.path.length - (i+1) < g.path.length - i;omega,(by repeat' (first|exact trivial|refine And.intro ?_ ?_|rfl|(simp (disch:=omega) only[go_sem,if_yes,if_no,↓reduceIte,reduceAdd,reduceMul,reduceEqDiff,Nat.reduceBEq,reduceLeDiff];rfl)|(simp (disch:=omega) only[go_sem,if_yes,if_no,↓reduceIte,reduceAdd,reduceMul,reduceEqDiff,Nat.reduceBEq,reduceLeDiff]))),(by repeat' (first|exact trivial|refine And.intro ?_ ?_|rfl|(simp (disch:=omega) only[go_sem,if_yes,if_no,↓reduceIte,reduceAdd,reduceMul,reduceEqDiff,Nat.reduceBEq,reduceLeDiff];rfl)|(simp (disch:=omega) only[go_sem,if_yes,if_no,↓reduceIte,reduceAdd,reduceMul,reduceEqDiff,Nat.reduceBEq,reduceLeDiff]))),rfl,(by first|exact HOld.of _ (by omega)|exact HOld.put _ _ _ (by omega))⟩
  obtain rfl:i=g.path.length:=by omega
  rw [List.drop_eq_nil_of_le (Nat.le_refl _)] at i3
  have i4:plc t f g came step=if 0 < k - g.path.length then -1 else q:=by rw [← i3];rfl
  repeat' (first|refine st_seq_reg rfl (by first|(simp only[go_sem,length_map,Nat.zero_add];rfl)|rfl) (by first|(simp only[go_sem,length_map,Nat.zero_add];rfl)|rfl) ?_|refine st_reg rfl (by first|(simp only[go_sem,length_map,Nat.zero_add];rfl)|rfl) (by first|(simp only[go_sem,length_map,Nat.zero_add];rfl)|rfl) ?_|refine st_op ?_|refine st_det rfl (by simp (disch:=omega) only[go_sem,wr_i64,if_yes,if_no,↓reduceIte,reduceAdd,reduceMul,reduceEqDiff,Nat.reduceBEq,reduceLeDiff,length_map,Nat.zero_add];rfl) ?_|(refine st_condS rfl ?_ ?_ <;> intro hg <;> (try simp only[decide_eq_true_eq,decide_eq_false_iff_not,Bool.not_eq_true',Bool.not_eq_false'] at hg))|refine st_nil ?_|refine st_tN ?_|refine st_seq ?_|refine st_block ?_|refine st_skip ?_|refine st_exit ?_|refine st_ret ?_|refine st_tE ?_|refine st_tR ?_|refine st_bN ?_|refine st_bR ?_|refine st_bH ?_)
  all_goals try (exfalso;omega)
  · simp (disch:=omega) only[AEnd,Try.results107,aresK,fin,go_sem,↓reduceIte,reduceEqDiff,reduceAdd,reduceLeDiff,if_yes,if_no,implies_true,true_and,and_true,List.reverse_cons,List.reverse_nil]
    rw [i4,if_pos (by omega)]
  · simp (disch:=omega) only[AEnd,Try.results107,aresK,fin,go_sem,↓reduceIte,reduceEqDiff,reduceAdd,reduceLeDiff,if_yes,if_no,implies_true,true_and,and_true,List.reverse_cons,List.reverse_nil]
    rw [i4,if_neg (by omega)]
end Go.Proofs.Ythjbfdfhblloiaa
