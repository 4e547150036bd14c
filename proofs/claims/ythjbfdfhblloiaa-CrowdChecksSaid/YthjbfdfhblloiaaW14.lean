/- Contracts of functions that the claim reaches: what each call gives, told in our own logic. Conditions: those of each theorem. -/
import Derived.Test.YthjbfdfhblloiaaQ24
import Derived.Test.YthjbfdfhblloiaaQ28
import Derived.Test.YthjbfdfhblloiaaW3
import Derived.Test.YthjbfdfhblloiaaQ31
import Derived.Test.YthjbfdfhblloiaaQ14
open Nat (reduceAdd reduceMul reduceEqDiff reduceLeDiff)
open List (length_map)
set_option linter.all false
set_option linter.unusedSimpArgs false
set_option linter.unusedVariables false
namespace Go.Proofs.Ythjbfdfhblloiaa
open Go.Av
attribute [local irreducible] thenA blockA awp awpOps awpD awp1
set_option maxHeartbeats 8000000
set_option maxRecDepth 20000
def bl (R:Nat) (f:Nat→Bool):List (List AV):=(List.range R).map fun q=>[.bool (f q)]
@[go_sem] theorem bl_len (R:Nat) (f:Nat→Bool):(bl R f).length=R:=by simp [bl]
@[go_sem] theorem bl_take (R:Nat) (f:Nat→Bool):List.take R (bl R f)=bl R f:=List.take_of_length_le (by rw [bl_len];exact Nat.le_refl _)
theorem bl_get {R:Nat} {f:Nat→Bool} {q:Nat} (h:q < R):(bl R f).getD q []=[.bool (f q)]:=by
  unfold bl;rw [List.getD_eq_getElem?_getD,List.getElem?_map,List.getElem?_range h];rfl
theorem bl_congr {R:Nat} {f g:Nat→Bool} (h:∀ q,q < R→f q=g q):bl R f=bl R g:=by
  unfold bl;exact List.map_congr_left fun q hq=>by rw [h q (List.mem_range.1 hq)]
theorem bl_set {R:Nat} {f:Nat→Bool} {q:Nat} {v:Bool} (_h:q < R):(bl R f).set q [.bool v]=bl R (fun j=>if j=q then v else f j):=by
  apply List.ext_getElem?
  intro j
  rw [List.getElem?_set]
  by_cases hj:j < R
  · have e:∀ g:Nat→Bool,(bl R g)[j]?=some [.bool (g j)]:=fun g=>by unfold bl;rw [List.getElem?_map,List.getElem?_range hj];rfl
    rw [e,e]
    by_cases q1:q=j
    · subst q1;rw [if_pos rfl,if_pos (by rw [bl_len];exact hj),if_pos rfl]
    · rw [if_neg q1,if_neg (fun h=>q1 h.symm)]
  · have e:∀ g:Nat→Bool,(bl R g)[j]?=none:=fun g=>List.getElem?_eq_none (by rw [bl_len];omega)
    rw [e,e]
    split
    · rw [if_neg (by rw [bl_len];omega)]
    · rfl
theorem bl_rep (R:Nat):List.replicate R [AV.bool false]=bl R (fun _=>false):=by
  apply List.ext_getElem?
  intro j
  unfold bl
  rw [List.getElem?_replicate,List.getElem?_map]
  by_cases hj:j < R
  · rw [if_pos hj,List.getElem?_range hj];rfl
  · rw [if_neg hj,List.getElem?_eq_none (by simp;omega)];rfl
def nx (t:Tw) (c:List Int) (frm:Int) (n a q:Nat):Bool:=lvl t c frm n (q:Nat) || (List.range a).any fun p=>lvl t c frm n (p:Nat) && adjB t c (p:Nat) (q:Nat)
def nl (R:Nat) (f:Nat→Int):List (List AV):=(List.range R).map fun q=>[.int .i64 (f q)]
@[go_sem] theorem nl_len (R:Nat) (f:Nat→Int):(nl R f).length=R:=by simp [nl]
@[go_sem] theorem nl_take (R:Nat) (f:Nat→Int):List.take R (nl R f)=nl R f:=List.take_of_length_le (by rw [nl_len];exact Nat.le_refl _)
theorem nl_get {R:Nat} {f:Nat→Int} {q:Nat} (h:q < R):(nl R f).getD q []=[.int .i64 (f q)]:=by
  unfold nl;rw [List.getD_eq_getElem?_getD,List.getElem?_map,List.getElem?_range h];rfl
theorem nl_congr {R:Nat} {f g:Nat→Int} (h:∀ q,q < R→f q=g q):nl R f=nl R g:=by
  unfold nl;exact List.map_congr_left fun q hq=>by rw [h q (List.mem_range.1 hq)]
theorem nl_set {R:Nat} {f:Nat→Int} {q:Nat} {v:Int} (_h:q < R):(nl R f).set q [.int .i64 v]=nl R (fun j=>if j=q then v else f j):=by
  apply List.ext_getElem?
  intro j
  rw [List.getElem?_set]
  by_cases hj:j < R
  · have e:∀ g:Nat→Int,(nl R g)[j]?=some [.int .i64 (g j)]:=fun g=>by unfold nl;rw [List.getElem?_map,List.getElem?_range hj];rfl
    rw [e,e]
    by_cases q1:q=j
    · subst q1;rw [if_pos rfl,if_pos (by rw [nl_len];exact hj),if_pos rfl]
    · rw [if_neg q1,if_neg (fun h=>q1 h.symm)]
  · have e:∀ g:Nat→Int,(nl R g)[j]?=none:=fun g=>List.getElem?_eq_none (by rw [nl_len];omega)
    rw [e,e]
    split
    · rw [if_neg (by rw [nl_len];omega)]
    · rfl
theorem nl_rep (R:Nat):List.replicate R [AV.int .i64 0]=nl R (fun _=>0):=by
  apply List.ext_getElem?
  intro j
  unfold nl
  rw [List.getElem?_replicate,List.getElem?_map]
  by_cases hj:j < R
  · rw [if_pos hj,List.getElem?_range hj];rfl
  · rw [if_neg hj,List.getElem?_eq_none (by simp;omega)];rfl
def refS (R:Nat) (f:Nat→Int):List Int:=(List.range R).map f
theorem refS_nl (R:Nat) (f:Nat→Int):(refS R f).map iv=nl R f:=by unfold refS nl;rw [List.map_map];rfl
theorem refS_len (R:Nat) (f:Nat→Int):(refS R f).length=R:=by simp [refS]
theorem refS_elt {R:Nat} {f:Nat→Int} {i:Nat} (h:i < R):elt (refS R f) i=f i:=by
  unfold elt refS;rw [List.getD_eq_getElem?_getD,List.getElem?_map,List.getElem?_range h];rfl
def clsN (c:List Int) (k:Nat) (j:Nat):Int:=if (c.take k).contains ((j:Nat):Int) then 2 else 1
theorem clsN_next {c:List Int} {k:Nat} (hk:k < c.length) (h0:0≤elt c k) (j:Nat):clsN c (k+1) j=if j=(elt c k).toNat then 2 else clsN c k j:=by
  have e:c[k]=elt c k:=by unfold elt;rw [List.getD_eq_getElem?_getD,List.getElem?_eq_getElem hk];rfl
  unfold clsN
  rw [List.take_succ_eq_append_getElem hk,e]
  by_cases q:j=(elt c k).toNat
  · have q2:((j:Nat):Int)=elt c k:=by omega
    rw [if_pos q,if_pos (by rw [List.contains_iff_mem,q2];simp)]
  · have q2:¬ ((j:Nat):Int)=elt c k:=by omega
    rw [if_neg q]
    have:(c.take k ++ [elt c k]).contains ((j:Nat):Int)=(c.take k).contains ((j:Nat):Int):=by
      rw [Bool.eq_iff_iff,List.contains_iff_mem,List.contains_iff_mem,List.mem_append,List.mem_singleton]
      exact ⟨fun h=>h.resolve_right q2,.inl⟩
    rw [this]
theorem c81 (t:Tw) (c:List Int) (hcl:c.length≤1000000) (hsn:t.sts.length≤12) (hb:∀ i,i < c.length→0≤elt c i∧elt c i < t.sts.length):Pure Try.prog 81 [t.av,.lst 1 (c.map iv)] (fun v=>v=.lst 1 ((refS t.sts.length (cls c)).map iv)):=by
  refine Pure.give Try.call81 fun h hall=>?_
  refine ACalls.of tab mixed Try.call81 Try.func81 rfl (fi:=⟨34,[],[2],none,[]⟩) rfl rfl (Nat.le_of_ble_eq_true rfl) (by decide) ?_
  unfold startA
  simp only[go_sem]
  repeat' (first|refine st_seq_reg rfl (by first|(simp only[go_sem,length_map,nl_rep,nl_len,Nat.zero_add];rfl)|rfl) (by first|(simp only[go_sem,length_map,nl_rep,nl_len,Nat.zero_add];rfl)|rfl) ?_|refine st_op ?_|refine st_det rfl (by simp (disch:=omega) only[go_sem,wr_i64,if_yes,if_no,↓reduceIte,reduceAdd,reduceMul,reduceEqDiff,Nat.reduceBEq,reduceLeDiff,length_map,nl_rep,nl_len,Nat.zero_add];rfl) ?_|refine st_heap rfl (by simp (disch:=omega) only[go_sem,wr_i64,if_yes,if_no,↓reduceIte,reduceAdd,reduceMul,reduceEqDiff,Nat.reduceBEq,reduceLeDiff,length_map,nl_rep,nl_len,Nat.zero_add];rfl) ?_|refine st_nil ?_|refine st_seq ?_|refine st_block ?_)
  refine st_loopH (α:=Nat × AH) tab mixed [] [] (by repeat (first|exact trivial|refine ⟨rfl,?_⟩)) [] [] (by repeat (first|exact trivial|refine ⟨rfl,?_⟩)) (fun a=>[(6,.int .i64 (a.1:Nat))]) [(1,_),(2,_),(5,_)] (fun _=>[]) [] (fun a=>a.2) (fun a=>a.1≤t.sts.length∧a.2.at_ (h.clk+1,11)=some ⟨1,nl t.sts.length fun j=>if j < a.1 then 1 else 0⟩∧h.clk+1 < a.2.clk∧(∀ b':Bid,b'.1 < h.clk→a.2.at_ b'=h.at_ b')∧a.2.lp=h.lp) (fun a=>t.sts.length - a.1) (by decide) (0,_) (by refine ⟨Nat.zero_le _,by simp only[go_sem,↓reduceIte];exact congrArg some (congrArg (Blk.mk 1) (nl_congr fun q _=>by simp)),by simp only[go_sem];omega,fun b' hb'=>by simp only[go_sem,if_neg (ne_fst hb' (by show h.clk≤h.clk+1;omega):¬ b'=(h.clk+1,11))],rfl⟩) (by (try simp only[go_sem]);repeat' (first|exact trivial|refine And.intro ?_ ?_|rfl|(simp (disch:=omega) only[go_sem,if_yes,if_no,↓reduceIte,reduceAdd,reduceMul,reduceEqDiff,Nat.reduceBEq,reduceLeDiff];rfl)|(simp (disch:=omega) only[go_sem,if_yes,if_no,↓reduceIte,reduceAdd,reduceMul,reduceEqDiff,Nat.reduceBEq,reduceLeDiff]))) (by (try simp only[go_sem]);repeat' (first|exact trivial|refine And.intro ?_ ?_|rfl|(simp (disch:=omega) only[go_sem,if_yes,if_no,↓reduceIte,reduceAdd,reduceMul,reduceEqDiff,Nat.reduceBEq,reduceLeDiff];rfl)|(simp (disch:=omega) only[go_sem,if_yes,if_no,↓reduceIte,reduceAdd,reduceMul,reduceEqDiff,Nat.reduceBEq,reduceLeDiff]))) (HOld.refl _) ?_
  rintro ⟨i,g⟩ d ⟨i1,i2,i3,i4,i5⟩ hd
  dsimp only at i1 i2 i3 i4 i5 hd
  simp only[go_sem]
  have nbo:∀ b':Bid,b'.1 < h.clk→¬ b'=(h.clk+1,11):=fun b' hb'=>ne_fst hb' (by show h.clk≤h.clk+1;omega)
  by_cases hi:i < t.sts.length
  case pos =>
    have hst:(nl t.sts.length fun j=>if j < i then 1 else 0).set i [.int .i64 1]=nl t.sts.length fun j=>if j < i+1 then 1 else 0:=by
      rw [nl_set hi]
      refine nl_congr fun q _=>?_
      by_cases q1:q=i
      · rw [if_pos q1,if_pos (by omega)]
      · rw [if_neg q1]
        by_cases q2:q < i
        · rw [if_pos q2,if_pos (by omega)]
        · rw [if_neg q2,if_neg (by omega)]
    repeat' (first|refine st_seq_reg rfl (by first|(simp only[go_sem,i2,nl_get,nl_len,Nat.zero_add,hst];rfl)|rfl) (by first|(simp only[go_sem,i2,nl_get,nl_len,Nat.zero_add,hst];rfl)|rfl) ?_|refine st_reg rfl (by first|(simp only[go_sem,i2,nl_get,nl_len,Nat.zero_add,hst];rfl)|rfl) (by first|(simp only[go_sem,i2,nl_get,nl_len,Nat.zero_add,hst];rfl)|rfl) ?_|refine st_op ?_|refine st_det rfl (by simp (disch:=omega) only[go_sem,wr_i64,if_yes,if_no,↓reduceIte,reduceAdd,reduceMul,reduceEqDiff,Nat.reduceBEq,reduceLeDiff,i2,nl_get,nl_len,Nat.zero_add,hst];rfl) ?_|refine st_store (by simp (disch:=omega) only[go_sem,wr_i64,if_yes,if_no,↓reduceIte,reduceAdd,reduceMul,reduceEqDiff,Nat.reduceBEq,reduceLeDiff,i2,nl_get,nl_len,Nat.zero_add,hst];rfl) ?_|(refine st_condS rfl ?_ ?_ <;> intro hg <;> (try simp only[decide_eq_true_eq,decide_eq_false_iff_not,Bool.not_eq_true',Bool.not_eq_false'] at hg))|refine st_nil ?_|refine st_tN ?_|refine st_seq ?_|refine st_block ?_|refine st_skip ?_|refine st_exit ?_|refine st_tE ?_|refine st_bN ?_|refine st_bH ?_)
    all_goals try (exfalso;omega)
    refine ⟨(i+1,_),(by refine ⟨by show i+1≤_;omega,by simp only[go_sem,↓reduceIte],by simp only[go_sem];omega,fun b' hb'=>by simp only[go_sem,if_neg (nbo b' hb')];exact i4 b' hb',i5⟩),by show t.sts.length - (i+1) < t.sts.length - i;omega,(by repeat' (first|exact trivial|refine And.intro ?_ ?_|rfl|(simp (disch:=omega) only[go_sem,if_yes,if_no,↓reduceIte,reduceAdd,reduceMul,reduceEqDiff,Nat.reduceBEq,reduceLeDiff];rfl)|(simp (disch:=omega) only[go_sem,if_yes,if_no,↓reduceIte,reduceAdd,reduceMul,reduceEqDiff,Nat.reduceBEq,reduceLeDiff]))),(by repeat' (first|exact trivial|refine And.intro ?_ ?_|rfl|(simp (disch:=omega) only[go_sem,if_yes,if_no,↓reduceIte,reduceAdd,reduceMul,reduceEqDiff,Nat.reduceBEq,reduceLeDiff];rfl)|(simp (disch:=omega) only[go_sem,if_yes,if_no,↓reduceIte,reduceAdd,reduceMul,reduceEqDiff,Nat.reduceBEq,reduceLeDiff]))),rfl,HOld.refl _⟩
  obtain rfl:i=t.sts.length:=by omega
  have i6:g.at_ (h.clk+1,11)=some ⟨1,nl t.sts.length (clsN c 0)⟩:=by
    rw [i2];exact congrArg some (congrArg (Blk.mk 1) (nl_congr fun q hq=>by rw [if_pos hq];rfl))
  repeat' (first|refine st_seq_reg rfl (by first|(simp only[go_sem,length_map,nl_len];rfl)|rfl) (by first|(simp only[go_sem,length_map,nl_len];rfl)|rfl) ?_|refine st_reg rfl (by first|(simp only[go_sem,length_map,nl_len];rfl)|rfl) (by first|(simp only[go_sem,length_map,nl_len];rfl)|rfl) ?_|refine st_op ?_|refine st_det rfl (by simp (disch:=omega) only[go_sem,wr_i64,if_yes,if_no,↓reduceIte,reduceAdd,reduceMul,reduceEqDiff,Nat.reduceBEq,reduceLeDiff,length_map,nl_len];rfl) ?_|(refine st_condS rfl ?_ ?_ <;> intro hg <;> (try simp only[decide_eq_true_eq,decide_eq_false_iff_not,Bool.not_eq_true',Bool.not_eq_false'] at hg))|refine st_nil ?_|refine st_tN ?_|refine st_seq ?_|refine st_block ?_|refine st_skip ?_|refine st_exit ?_|refine st_tE ?_|refine st_bH ?_)
  all_goals try (exfalso;omega)
  refine st_loopH (α:=Nat × AH) tab mixed [] [] (by repeat (first|exact trivial|refine ⟨rfl,?_⟩)) [] [] (by repeat (first|exact trivial|refine ⟨rfl,?_⟩)) (fun a=>[(7,.int .i64 (a.1:Nat))]) [(1,_),(2,_),(5,_)] (fun _=>[]) [] (fun a=>a.2) (fun a=>a.1≤c.length∧a.2.at_ (h.clk+1,11)=some ⟨1,nl t.sts.length (clsN c a.1)⟩∧h.clk+1 < a.2.clk∧(∀ b':Bid,b'.1 < h.clk→a.2.at_ b'=h.at_ b')∧a.2.lp=h.lp) (fun a=>c.length - a.1) (by decide) (0,_) (by refine ⟨Nat.zero_le _,by simp only[go_sem];exact i6,by simp only[go_sem];omega,fun b' hb'=>i4 b' hb',i5⟩) (by (try simp only[go_sem]);repeat' (first|exact trivial|refine And.intro ?_ ?_|rfl|(simp (disch:=omega) only[go_sem,if_yes,if_no,↓reduceIte,reduceAdd,reduceMul,reduceEqDiff,Nat.reduceBEq,reduceLeDiff];rfl)|(simp (disch:=omega) only[go_sem,if_yes,if_no,↓reduceIte,reduceAdd,reduceMul,reduceEqDiff,Nat.reduceBEq,reduceLeDiff]))) (by (try simp only[go_sem]);repeat' (first|exact trivial|refine And.intro ?_ ?_|rfl|(simp (disch:=omega) only[go_sem,if_yes,if_no,↓reduceIte,reduceAdd,reduceMul,reduceEqDiff,Nat.reduceBEq,reduceLeDiff];rfl)|(simp (disch:=omega) only[go_sem,if_yes,if_no,↓reduceIte,reduceAdd,reduceMul,reduceEqDiff,Nat.reduceBEq,reduceLeDiff]))) (HOld.refl _) ?_
  rintro ⟨k,g2⟩ e ⟨j1,j2,j3,j4,j5⟩ he
  dsimp only at j1 j2 j3 j4 j5 he
  simp only[go_sem]
  by_cases hk:k < c.length
  case pos =>
    have hbk:=hb k hk
    have hbn:(elt c k).toNat < t.sts.length:=by omega
    have hst:(nl t.sts.length (clsN c k)).set (elt c k).toNat [.int .i64 2]=nl t.sts.length (clsN c (k+1)):=by
      rw [nl_set hbn]
      exact nl_congr fun q _=>(clsN_next hk hbk.1 q).symm
    repeat' (first|refine st_seq_reg rfl (by first|(simp only[go_sem,length_map,j2,nl_get,nl_len,Nat.zero_add,hst];rfl)|rfl) (by first|(simp only[go_sem,length_map,j2,nl_get,nl_len,Nat.zero_add,hst];rfl)|rfl) ?_|refine st_reg rfl (by first|(simp only[go_sem,length_map,j2,nl_get,nl_len,Nat.zero_add,hst];rfl)|rfl) (by first|(simp only[go_sem,length_map,j2,nl_get,nl_len,Nat.zero_add,hst];rfl)|rfl) ?_|refine st_op ?_|refine st_det rfl (by simp (disch:=omega) only[go_sem,wr_i64,if_yes,if_no,↓reduceIte,reduceAdd,reduceMul,reduceEqDiff,Nat.reduceBEq,reduceLeDiff,length_map,j2,nl_get,nl_len,Nat.zero_add,hst];rfl) ?_|refine st_store (by simp (disch:=omega) only[go_sem,wr_i64,if_yes,if_no,↓reduceIte,reduceAdd,reduceMul,reduceEqDiff,Nat.reduceBEq,reduceLeDiff,length_map,j2,nl_get,nl_len,Nat.zero_add,hst];rfl) ?_|(refine st_condS rfl ?_ ?_ <;> intro hg <;> (try simp only[decide_eq_true_eq,decide_eq_false_iff_not,Bool.not_eq_true',Bool.not_eq_false'] at hg))|refine st_nil ?_|refine st_tN ?_|refine st_seq ?_|refine st_block ?_|refine st_skip ?_|refine st_exit ?_|refine st_ret ?_|refine st_tE ?_|refine st_bN ?_|refine st_bH ?_)
    all_goals try (exfalso;omega)
    refine ⟨(k+1,_),(by refine ⟨by show k+1≤_;omega,by simp only[go_sem,↓reduceIte],by simp only[go_sem];omega,fun b' hb'=>by simp only[go_sem,if_neg (nbo b' hb')];exact j4 b' hb',j5⟩),by show c.length - (k+1) < c.length - k;omega,(by repeat' (first|exact trivial|refine And.intro ?_ ?_|rfl|(simp (disch:=omega) only[go_sem,if_yes,if_no,↓reduceIte,reduceAdd,reduceMul,reduceEqDiff,Nat.reduceBEq,reduceLeDiff];rfl)|(simp (disch:=omega) only[go_sem,if_yes,if_no,↓reduceIte,reduceAdd,reduceMul,reduceEqDiff,Nat.reduceBEq,reduceLeDiff]))),(by repeat' (first|exact trivial|refine And.intro ?_ ?_|rfl|(simp (disch:=omega) only[go_sem,if_yes,if_no,↓reduceIte,reduceAdd,reduceMul,reduceEqDiff,Nat.reduceBEq,reduceLeDiff];rfl)|(simp (disch:=omega) only[go_sem,if_yes,if_no,↓reduceIte,reduceAdd,reduceMul,reduceEqDiff,Nat.reduceBEq,reduceLeDiff]))),rfl,HOld.refl _⟩
  obtain rfl:k=c.length:=by omega
  have j6:g2.at_ (h.clk+1,11)=some ⟨1,(refS t.sts.length (cls c)).map iv⟩:=by
    rw [j2,refS_nl];exact congrArg some (congrArg (Blk.mk 1) (nl_congr fun q hq=>by unfold clsN;rw [List.take_length];rfl))
  repeat' (first|refine st_seq_reg rfl (by first|(simp only[go_sem,length_map];rfl)|rfl) (by first|(simp only[go_sem,length_map];rfl)|rfl) ?_|refine st_reg rfl (by first|(simp only[go_sem,length_map];rfl)|rfl) (by first|(simp only[go_sem,length_map];rfl)|rfl) ?_|refine st_op ?_|refine st_det rfl (by simp (disch:=omega) only[go_sem,wr_i64,if_yes,if_no,↓reduceIte,reduceAdd,reduceMul,reduceEqDiff,Nat.reduceBEq,reduceLeDiff,length_map];rfl) ?_|(refine st_condS rfl ?_ ?_ <;> intro hg <;> (try simp only[decide_eq_true_eq,decide_eq_false_iff_not,Bool.not_eq_true',Bool.not_eq_false'] at hg))|refine st_nil ?_|refine st_tN ?_|refine st_seq ?_|refine st_block ?_|refine st_skip ?_|refine st_exit ?_|refine st_ret ?_|refine st_tE ?_|refine st_bH ?_)
  all_goals try (exfalso;omega)
  simp (disch:=omega) only[AEnd,Try.results81,aresK,fin,go_sem,↓reduceIte,reduceEqDiff,reduceAdd,reduceLeDiff,if_yes,if_no,implies_true,true_and,and_true,List.reverse_cons,List.reverse_nil]
  refine ⟨j4,j5,.inr ⟨(h.clk+1,11),_,by show h.clk≤h.clk+1;omega,j6,?_⟩⟩
  simp only[frz]
  rw [if_pos ⟨trivial,by rw [length_map,refS_len];omega⟩,List.drop_zero,List.take_of_length_le (by rw [length_map,refS_len];exact Nat.le_refl _)]
theorem wlk_ext {t:Tw} {f g:Nat→Int} (R:Nat) (h:∀ j,j < R→f j=g j):∀ (p:List Int) (k:Nat) (q:Int),(∀ x ∈ p,0≤x∧x < R)→wlk t f p k q=wlk t g p k q
  | [],_,_,_=>rfl
  | _ :: _,0,_,_=>rfl
  | p :: ps,k+1,q,hp=>by
    have hp0:=hp p (List.mem_cons_self ..)
    show (if f p.toNat=0 then -2 else if f p.toNat=2 then q else wlk t f ps k (oth (sx t.sts p.toNat) q))=(if g p.toNat=0 then -2 else if g p.toNat=2 then q else wlk t g ps k (oth (sx t.sts p.toNat) q))
    rw [wlk_ext R h ps k _ (fun x hx=>hp x (List.mem_cons_of_mem _ hx)),h p.toNat (by omega)]
theorem plc_ext {t:Tw} {f g:Nat→Int} (h:∀ j,j < t.sts.length→f j=g j) {x:Gp} (hG:GpOk t x) (came step:Int):plc t f x came step=plc t g x came step:=by
  unfold plc
  rw [wlk_ext t.sts.length h x.path _ _ (fun y hy=>?_)]
  obtain ⟨i,hi,e⟩:=List.mem_iff_getElem.1 hy
  have:=hG.st i hi
  unfold elt at this
  rw [List.getD_eq_getElem?_getD,List.getElem?_eq_getElem hi] at this
  rw [← e];exact this
end Go.Proofs.Ythjbfdfhblloiaa

namespace Go.Proofs.Ythjbfdfhblloiaa
open Go.Av
set_option maxRecDepth 20000
theorem someB_iff {t:Tw} {s:Nat→Int} {g:Gp} {q st:Int}:someB t s g q st=true ↔ ∃ c,g.alo≤c∧c≤g.ahi∧plc t s g c st=q:=by
  unfold someB
  rw [List.any_eq_true]
  constructor
  · rintro ⟨i,hi,h⟩
    have:=List.mem_range.1 hi
    exact ⟨g.alo+i,by omega,by omega,of_decide_eq_true h⟩
  · rintro ⟨c,h1,h2,h3⟩
    exact ⟨(c - g.alo).toNat,List.mem_range.2 (by omega),decide_eq_true (by rw [show g.alo+(((c - g.alo).toNat:Nat):Int)=c by omega];exact h3)⟩
theorem allB_iff {t:Tw} {s:Nat→Int} {g:Gp} {q st:Int}:allB t s g q st=true ↔ ∀ c,g.alo≤c→c≤g.ahi→plc t s g c st=q:=by
  unfold allB
  rw [List.all_eq_true]
  constructor
  · intro h c h1 h2
    have:=of_decide_eq_true (h (c - g.alo).toNat (List.mem_range.2 (by omega)))
    rw [show g.alo+(((c - g.alo).toNat:Nat):Int)=c by omega] at this
    exact this
  · intro h i hi
    have:=List.mem_range.1 hi
    exact decide_eq_true (h _ (by omega) (by omega))
theorem sumF_le {F G:Nat→Int}:∀ {n:Nat},(∀ i,i < n→F i≤G i)→sumF F n≤sumF G n
  | 0,_=>Int.le_refl _
  | n+1,h=>by
    have h1:=sumF_le (n:=n) fun i hi=>h i (by omega)
    have h2:=h n (by omega)
    show sumF F n+F n≤sumF G n+G n
    omega
end Go.Proofs.Ythjbfdfhblloiaa

namespace Go.Proofs.Ythjbfdfhblloiaa
open Go.Av
attribute [local irreducible] thenA blockA awp awpOps awpD awp1
set_option maxHeartbeats 8000000
set_option maxRecDepth 20000
structure Cm where
  at_:Int
  many:Int
def Cm.row (x:Cm):List AV:=[.int .i64 x.at_,.int .i64 x.many]
@[go_sem] theorem Cm.row_eq (x:Cm):x.row=[.int .i64 x.at_,.int .i64 x.many]:=rfl
def cm (l:List Cm) (i:Nat):Cm:=l.getD i ⟨0,0⟩
@[go_sem] theorem cmrow_getD {l:List Cm} {i:Nat} (h:i < l.length):(l.map Cm.row).getD i []=(cm l i).row:=by
  simp [List.getD_eq_getElem?_getD,h,cm]
theorem wayN_lt {t:Tw} (hT:TwOk t) {g:Gp} (hG:GpOk t g):∀ i,i≤g.path.length→wayN t g.path g.first i < t.rooms.length
  | 0,_=>hG.first.2
  | i+1,hi=>by
    have a:=hG.st i (by omega)
    exact oth_bd hT (i:=(elt g.path i).toNat) (by omega) (hG.way (i+1) hi)
theorem wlk_lt {t:Tw} (hT:TwOk t) {g:Gp} (hG:GpOk t g) (f:Nat→Int):∀ (n i k:Nat),i+n=g.path.length→wlk t f (g.path.drop i) k (wayN t g.path g.first i) < t.rooms.length
  | 0,i,k,h=>by
    have hw:=wayN_lt hT hG i (by omega)
    have hr:=hT.r0
    rw [List.drop_eq_nil_of_le (by omega)]
    show (if 0 < k then (-1:Int) else _) < _
    split <;> omega
  | n+1,i,0,h=>by
    have hw:=wayN_lt hT hG i (by omega)
    rw [drop_getD 0 (by omega:i < g.path.length)];exact hw
  | n+1,i,k+1,h=>by
    have hw:=wayN_lt hT hG i (by omega)
    have hr:=hT.r0
    have ih:=wlk_lt hT hG f n (i+1) k (by omega)
    rw [drop_getD 0 (by omega:i < g.path.length)]
    show (if f (elt g.path i).toNat=0 then (-2:Int) else if f (elt g.path i).toNat=2 then wayN t g.path g.first i else wlk t f (g.path.drop (i+1)) k (oth (sx t.sts (elt g.path i).toNat) (wayN t g.path g.first i))) < _
    split
    · omega
    · split
      · exact hw
      · exact ih
theorem plc_lt {t:Tw} (hT:TwOk t) {g:Gp} (hG:GpOk t g) (f:Nat→Int) (came step:Int):plc t f g came step < t.rooms.length:=by
  have hr:=hT.r0
  unfold plc
  split
  · omega
  · exact wlk_lt hT hG f g.path.length 0 _ (by omega)
end Go.Proofs.Ythjbfdfhblloiaa

namespace Go.Proofs.Ythjbfdfhblloiaa
open Go.Av
set_option maxRecDepth 20000
def cntB (P:Nat→Bool):Nat→Nat
  | 0=>0
  | n+1=>cntB P n+if P n=true then 1 else 0
theorem cntB_le (P:Nat→Bool):∀ n,cntB P n≤n
  | 0=>Nat.le_refl _
  | n+1=>by
    have:=cntB_le P n
    show cntB P n+_≤n+1
    split <;> omega
theorem cntB_congr {P Q:Nat→Bool}:∀ {n:Nat},(∀ q,q < n→P q=Q q)→cntB P n=cntB Q n
  | 0,_=>rfl
  | n+1,h=>by
    show cntB P n+_=cntB Q n+_
    rw [cntB_congr fun q hq=>h q (by omega),h n (by omega)]
theorem cntB_zero {P:Nat→Bool}:∀ {n:Nat},(∀ q,q < n→P q=false)→cntB P n=0
  | 0,_=>rfl
  | n+1,h=>by
    show cntB P n+(if P n=true then 1 else 0)=0
    rw [cntB_zero fun q hq=>h q (by omega),h n (by omega)];rfl
theorem cntB_set {P:Nat→Bool} {j:Nat} (hj:P j=false):∀ {n:Nat},cntB (fun q=>if q=j then true else P q) n=cntB P n+if j < n then 1 else 0
  | 0=>by rw [if_neg (Nat.not_lt_zero _)];rfl
  | n+1=>by
    show cntB _ n+(if (if n=j then true else P n)=true then 1 else 0)=cntB P n+(if P n=true then 1 else 0)+_
    rw [cntB_set hj]
    by_cases e:n=j
    · subst e
      rw [if_pos rfl,if_pos rfl,hj,if_neg (Nat.lt_irrefl _),if_pos (Nat.lt_succ_self _)];rfl
    · rw [if_neg e]
      by_cases e2:j < n
      · have e4:j < n+1:=by omega
        rw [if_pos e2,if_pos e4];omega
      · have e4:¬ j < n+1:=by omega
        rw [if_neg e2,if_neg e4];omega
def mayB (t:Tw) (f:Nat→Int) (g:Gp) (st:Int) (k q:Nat):Bool:=if q=t.rooms.length then someN t f g (-1) st k else someN t f g (q:Nat) st k
def oneB (t:Tw) (f:Nat→Int) (g:Gp) (st:Int):Bool:=decide (cntB (mayB t f g st (plN g)) (t.rooms.length+1)=1)
theorem mayB_next {t:Tw} {f:Nat→Int} {g:Gp} {st:Int} {k:Nat} {p:Int} (hp:plc t f g (g.alo+(k:Nat)) st=p) (j:Nat) (hj:(p = -1∧j=t.rooms.length) ∨ (p=(j:Nat)∧j < t.rooms.length)) (q:Nat) (hq:q≤t.rooms.length):mayB t f g st (k+1) q=if q=j then true else mayB t f g st k q:=by
  unfold mayB
  rw [someN_next,someN_next,hp]
  rcases hj with ⟨e1,e2⟩|⟨e1,e2⟩
  · by_cases e:q=t.rooms.length
    · rw [if_pos e,if_pos (by omega),e1];simp
    · rw [if_neg e,if_neg (by omega),if_neg e,decide_eq_false (by omega),Bool.or_false]
  · by_cases e:q=t.rooms.length
    · rw [if_pos e,if_neg (by omega),if_pos e,decide_eq_false (by omega),Bool.or_false]
    · rw [if_neg e,if_neg e]
      by_cases e3:q=j
      · rw [if_pos e3,decide_eq_true (by omega),Bool.or_true]
      · rw [if_neg e3,decide_eq_false (by omega),Bool.or_false]
theorem mayB_skip {t:Tw} {f:Nat→Int} {g:Gp} {st:Int} {k:Nat} (hp:plc t f g (g.alo+(k:Nat)) st = -2) (q:Nat):mayB t f g st (k+1) q=mayB t f g st k q:=by
  unfold mayB
  rw [someN_next,someN_next,hp,decide_eq_false (by decide),Bool.or_false,decide_eq_false (by omega),Bool.or_false]
theorem wlk_ge2 {t:Tw} {g:Gp} (hG:GpOk t g) (f:Nat→Int):∀ (n i k:Nat),i+n=g.path.length→0≤wayN t g.path g.first i→-2≤wlk t f (g.path.drop i) k (wayN t g.path g.first i)
  | 0,i,k,h,h0=>by
    rw [List.drop_eq_nil_of_le (by omega)]
    show -2≤(if 0 < k then (-1:Int) else _)
    split <;> omega
  | n+1,i,0,h,h0=>by
    rw [drop_getD 0 (by omega:i < g.path.length)];show -2≤wayN t g.path g.first i;omega
  | n+1,i,k+1,h,h0=>by
    have ih:=wlk_ge2 hG f n (i+1) k (by omega) (hG.way (i+1) (by omega))
    rw [drop_getD 0 (by omega:i < g.path.length)]
    show -2≤(if f (elt g.path i).toNat=0 then (-2:Int) else if f (elt g.path i).toNat=2 then wayN t g.path g.first i else wlk t f (g.path.drop (i+1)) k (oth (sx t.sts (elt g.path i).toNat) (wayN t g.path g.first i)))
    split
    · omega
    · split
      · omega
      · exact ih
theorem plc_ge2 {t:Tw} {g:Gp} (hG:GpOk t g) (f:Nat→Int) (came step:Int):-2≤plc t f g came step:=by
  unfold plc
  split
  · omega
  · exact wlk_ge2 hG f g.path.length 0 _ (by omega) hG.first.1
end Go.Proofs.Ythjbfdfhblloiaa
