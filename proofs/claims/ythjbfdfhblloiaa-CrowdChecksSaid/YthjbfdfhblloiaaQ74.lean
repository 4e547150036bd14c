/- Contracts of functions that the claim reaches: what each call gives, told in our own logic. Conditions: those of each theorem. -/
import Derived.Test.YthjbfdfhblloiaaBaseD
import Derived.Test.YthjbfdfhblloiaaQ55
import Derived.Test.YthjbfdfhblloiaaQ18
import Derived.Test.YthjbfdfhblloiaaQ14
import Derived.Test.YthjbfdfhblloiaaW11
import Derived.Test.YthjbfdfhblloiaaBaseC
import Derived.Test.YthjbfdfhblloiaaQ11
open Nat (reduceAdd reduceMul reduceEqDiff reduceLeDiff)
open List (length_map)
set_option linter.all false
set_option linter.unusedSimpArgs false
set_option linter.unusedVariables false
namespace Go.Proofs.Ythjbfdfhblloiaa
open Go.Av
attribute [local irreducible] thenA blockA awp awpOps awpD awp1
set_option maxHeartbeats 8000000
set_option maxRecDepth 20000
structure CsS where
  i:Nat
  v:AV
  g:AH
theorem rlds_get {t:Tw} {f:Nat→Int} {st:Int} {q:Nat} (h:q < t.rooms.length):(rlds t f st).getD q []=[.int .i64 (sumF (rloF t f (q:Nat) st) t.gs.length),.int .i64 (ldHi t f (q:Nat) st)]:=sl_get h
theorem rlds_len {t:Tw} {f:Nat→Int} {st:Int}:(rlds t f st).length=t.rooms.length:=sl_len _ _ _
theorem catN_up {α:Type} {g:Nat→List α} {B:Nat}:∀ {n:Nat},(∀ i,i < n→(g i).length≤B)→(catN g n).length≤n * B:=fun h=>catN_len h
theorem c91 (t:Tw) (s:List Int) (hT:TwOk t) (hsl:s.length=t.sts.length):Pure Try.prog 91 [t.av,.lst 1 (s.map iv)] (fun v=>v=.lst 3 ((crL t (elt s)).map Cr.row)):=by
  have hrn:=hT.rn
  have hst:=hT.steps
  have ht0:t.av=.agg t.cells:=rfl
  refine Pure.give Try.call91 fun h hall=>?_
  refine ACalls.of tab mixed Try.call91 Try.func91 rfl (fi:=⟨49,[],[2,46],none,[(9,[0,0,3,7,15,0,32,0,224,480,1023],[(0,false),(1,false),(2,false),(3,false),(4,true),(5,false),(6,true),(7,false),(8,false),(9,true),(10,false)])]⟩) rfl rfl (Nat.le_of_ble_eq_true rfl) (by decide) ?_
  unfold startA
  rw [ht0]
  unfold Tw.cells
  repeat' (first|refine st_seq_reg rfl (by first|(simp only[go_sem];rfl)|rfl) (by first|(simp only[go_sem];rfl)|rfl) ?_|refine st_op ?_|refine st_det rfl (by simp (disch:=omega) only[go_sem,wr_i64,if_yes,if_no,↓reduceIte,reduceAdd,reduceMul,reduceEqDiff,Nat.reduceBEq,reduceLeDiff];rfl) ?_|refine st_nil ?_|refine st_seq ?_|refine st_block ?_)
  have hF1:∀ st q,(crF t (elt s) st q).length≤1:=fun st q=>by unfold crF;split <;> simp
  have hS12:∀ st,(crS t (elt s) st).length≤12:=fun st=>by
    have:=catN_up (g:=crF t (elt s) st) (B:=1) (n:=t.rooms.length) (fun q _=>hF1 st q)
    unfold crS;omega
  refine st_loopH (α:=CsS) tab mixed [] [] (by repeat (first|exact trivial|refine ⟨rfl,?_⟩)) [] [] (by repeat (first|exact trivial|refine ⟨rfl,?_⟩)) (fun a=>[(6,.int .i64 (a.i:Nat)),(5,a.v)]) [(1,_),(2,_)] (fun _=>[]) [] (fun a=>a.g) (fun a=>a.i≤(t.steps+1).toNat∧SlA h.clk a.g a.v 3 ((catN (crS t (elt s)) a.i).map Cr.row)∧(∀ b':Bid,b'.1 < h.clk→a.g.at_ b'=h.at_ b')∧a.g.lp=h.lp∧h.clk≤a.g.clk) (fun a=>(t.steps+1).toNat - a.i) (by decide) ⟨0,.nils,_⟩ (by refine ⟨Nat.zero_le _,.inl ⟨rfl,rfl⟩,fun _ _=>rfl,rfl,by simp only[go_sem];omega⟩) (by (try simp only[go_sem]);repeat' (first|exact trivial|refine And.intro ?_ ?_|rfl|(simp (disch:=omega) only[go_sem,if_yes,if_no,↓reduceIte,reduceAdd,reduceMul,reduceEqDiff,Nat.reduceBEq,reduceLeDiff];rfl)|(simp (disch:=omega) only[go_sem,if_yes,if_no,↓reduceIte,reduceAdd,reduceMul,reduceEqDiff,Nat.reduceBEq,reduceLeDiff]))) (by (try simp only[go_sem]);repeat' (first|exact trivial|refine And.intro ?_ ?_|rfl|(simp (disch:=omega) only[go_sem,if_yes,if_no,↓reduceIte,reduceAdd,reduceMul,reduceEqDiff,Nat.reduceBEq,reduceLeDiff];rfl)|(simp (disch:=omega) only[go_sem,if_yes,if_no,↓reduceIte,reduceAdd,reduceMul,reduceEqDiff,Nat.reduceBEq,reduceLeDiff]))) (HOld.refl _) ?_
  rintro ⟨st,v,G⟩ d ⟨i1,hS,i3,i4,i5⟩ hd
  dsimp only at i1 hS i3 i4 i5 hd
  simp only[go_sem]
  by_cases hi:st < (t.steps+1).toNat
  case neg =>
    obtain rfl:st=(t.steps+1).toNat:=by omega
    have hnc:=hS.noL
    repeat' (first|refine st_seq_reg rfl (by first|(simp only[go_sem];rfl)|rfl) (by first|(simp only[go_sem];rfl)|rfl) ?_|refine st_op ?_|refine st_det rfl (by simp (disch:=omega) only[go_sem,wr_i64,if_yes,if_no,↓reduceIte,reduceAdd,reduceMul,reduceEqDiff,Nat.reduceBEq,reduceLeDiff];rfl) ?_|(refine st_condS rfl ?_ ?_ <;> intro hg <;> (try simp only[decide_eq_true_eq,decide_eq_false_iff_not,Bool.not_eq_true',Bool.not_eq_false'] at hg))|refine st_nil ?_|refine st_tN ?_|refine st_seq ?_|refine st_block ?_|refine st_skip ?_|refine st_exit ?_|refine st_ret ?_|refine st_tE ?_|refine st_bH ?_)
    all_goals try (exfalso;omega)
    simp (disch:=omega) only[AEnd,Try.results91,aresK,fin,go_sem,↓reduceIte,reduceEqDiff,reduceAdd,reduceLeDiff,if_yes,if_no,implies_true,true_and,and_true,List.reverse_cons,List.reverse_nil]
    exact ⟨hS.noL,i3,i4,SlA.ans (h:=h) (g:=G) (R:=fun v=>v=.lst 3 ((crL t (elt s)).map Cr.row)) hS rfl⟩
  have k89:=c89 t s (st:Nat) hT hsl ⟨by omega,by omega⟩
  have hlen:(catN (crS t (elt s)) st).length≤st * 12:=catN_up fun i _=>hS12 i
  have hnc:=hS.noL
  repeat' (first|refine st_seq_reg rfl (by first|(simp only[go_sem];rfl)|rfl) (by first|(simp only[go_sem];rfl)|rfl) ?_|refine st_op ?_|refine st_det rfl (by simp (disch:=omega) only[go_sem,wr_i64,if_yes,if_no,↓reduceIte,reduceAdd,reduceMul,reduceEqDiff,Nat.reduceBEq,reduceLeDiff];rfl) ?_|(refine st_pureE (by first|(simp (disch:=omega) only[go_sem];rfl)|rfl) rfl (k89) (by first|(simp only[go_sem];rfl)|rfl) (by intro n;first|(simp (disch:=omega) only[go_sem];rfl)|rfl) ?_;intro n hn)|(refine st_condS rfl ?_ ?_ <;> intro hg <;> (try simp only[decide_eq_true_eq,decide_eq_false_iff_not,Bool.not_eq_true',Bool.not_eq_false'] at hg))|refine st_nil ?_|refine st_tN ?_|refine st_seq ?_|refine st_block ?_|refine st_skip ?_|refine st_exit ?_|refine st_ret ?_|refine st_tE ?_|refine st_bH ?_)
  all_goals try (exfalso;omega)
  refine st_loopH (α:=CsS) tab mixed [] [] (by repeat (first|exact trivial|refine ⟨rfl,?_⟩)) [] [] (by repeat (first|exact trivial|refine ⟨rfl,?_⟩)) (fun a=>[(8,.int .i64 (a.i:Nat)),(5,a.v)]) [(1,_),(2,_),(6,_),(7,_)] (fun _=>[]) [] (fun a=>a.g) (fun a=>a.i≤t.rooms.length∧SlA h.clk a.g a.v 3 ((catN (crS t (elt s)) st ++ catN (crF t (elt s) st) a.i).map Cr.row)∧(∀ b':Bid,b'.1 < h.clk→a.g.at_ b'=h.at_ b')∧a.g.lp=h.lp∧h.clk≤a.g.clk) (fun a=>t.rooms.length - a.i) (by decide) ⟨0,v,_⟩ (by refine ⟨Nat.zero_le _,?_,fun b' hb'=>i3 b' hb',i4,by simp only[go_sem];omega⟩;show SlA h.clk _ v 3 ((catN (crS t (elt s)) st ++ []).map Cr.row);rw [List.append_nil];exact hS.to (fun _ _ _ _ _=>rfl) (by simp only[go_sem];omega)) (by (try simp only[go_sem]);repeat' (first|exact trivial|refine And.intro ?_ ?_|rfl|(simp (disch:=omega) only[go_sem,if_yes,if_no,↓reduceIte,reduceAdd,reduceMul,reduceEqDiff,Nat.reduceBEq,reduceLeDiff];rfl)|(simp (disch:=omega) only[go_sem,if_yes,if_no,↓reduceIte,reduceAdd,reduceMul,reduceEqDiff,Nat.reduceBEq,reduceLeDiff]))) (by (try simp only[go_sem]);repeat' (first|exact trivial|refine And.intro ?_ ?_|rfl|(simp (disch:=omega) only[go_sem,if_yes,if_no,↓reduceIte,reduceAdd,reduceMul,reduceEqDiff,Nat.reduceBEq,reduceLeDiff];rfl)|(simp (disch:=omega) only[go_sem,if_yes,if_no,↓reduceIte,reduceAdd,reduceMul,reduceEqDiff,Nat.reduceBEq,reduceLeDiff]))) (HOld.refl _) ?_
  clear i3 i4 i5 hS hd hnc
  rintro ⟨q,v,G⟩ d ⟨j1,hS,i3,i4,i5⟩ hd
  dsimp only at j1 hS i3 i4 i5 hd
  simp only[go_sem]
  have hnc:=hS.noL
  have hlen2:(catN (crF t (elt s) st) q).length≤q * 1:=catN_up fun i _=>hF1 st i
  by_cases hq:q < t.rooms.length
  case neg =>
    obtain rfl:q=t.rooms.length:=by omega
    repeat' (first|refine st_seq_reg rfl (by first|(simp only[go_sem,length_map];rfl)|rfl) (by first|(simp only[go_sem,length_map];rfl)|rfl) ?_|refine st_reg rfl (by first|(simp only[go_sem,length_map];rfl)|rfl) (by first|(simp only[go_sem,length_map];rfl)|rfl) ?_|refine st_seq_draw rfl (by first|(simp only[go_sem,length_map];rfl)|rfl) (by first|(simp only[go_sem,length_map];rfl)|rfl) ?_|refine st_op ?_|refine st_det rfl (by simp (disch:=omega) only[go_sem,wr_i64,if_yes,if_no,↓reduceIte,reduceAdd,reduceMul,reduceEqDiff,Nat.reduceBEq,reduceLeDiff,length_map];rfl) ?_|refine st_dop rfl ?_|(refine st_condS rfl ?_ ?_ <;> intro hg <;> (try simp only[decide_eq_true_eq,decide_eq_false_iff_not,Bool.not_eq_true',Bool.not_eq_false'] at hg))|refine st_nil ?_|refine st_tN ?_|refine st_seq ?_|refine st_block ?_|refine st_skip ?_|refine st_exit ?_|refine st_tE ?_|refine st_bN ?_|refine st_bH ?_)
    all_goals try (exfalso;omega)
    refine ⟨⟨st+1,v,_⟩,(by refine ⟨by show st+1≤_;omega,hS.to (fun _ _ _ _ _=>rfl) (by simp only[go_sem];omega),fun b' hb'=>i3 b' hb',i4,by simp only[go_sem];omega⟩),by show (t.steps+1).toNat - (st+1) < (t.steps+1).toNat - st;omega,(by repeat' (first|exact trivial|refine And.intro ?_ ?_|rfl|(simp (disch:=omega) only[go_sem,if_yes,if_no,↓reduceIte,reduceAdd,reduceMul,reduceEqDiff,Nat.reduceBEq,reduceLeDiff];rfl)|(simp (disch:=omega) only[go_sem,if_yes,if_no,↓reduceIte,reduceAdd,reduceMul,reduceEqDiff,Nat.reduceBEq,reduceLeDiff]))),(by repeat' (first|exact trivial|refine And.intro ?_ ?_|rfl|(simp (disch:=omega) only[go_sem,if_yes,if_no,↓reduceIte,reduceAdd,reduceMul,reduceEqDiff,Nat.reduceBEq,reduceLeDiff];rfl)|(simp (disch:=omega) only[go_sem,if_yes,if_no,↓reduceIte,reduceAdd,reduceMul,reduceEqDiff,Nat.reduceBEq,reduceLeDiff]))),rfl,HOld.refl _⟩
  have hgq:=rlds_get (t:=t) (f:=elt s) (st:=(st:Nat)) hq
  have hrl:=rlds_len (t:=t) (f:=elt s) (st:=(st:Nat))
  have hnx:catN (crF t (elt s) st) (q+1)=catN (crF t (elt s) st) q ++ crF t (elt s) st q:=rfl
  by_cases hb:elt t.rooms q < ldHi t (elt s) (q:Nat) (st:Nat)
  · have hc1:crF t (elt s) st q=[⟨(st:Nat),(q:Nat),ldHi t (elt s) (q:Nat) (st:Nat)⟩]:=by unfold crF;rw [if_pos hb]
    rw [hc1] at hnx
    repeat' (first|refine st_seq_reg rfl (by first|(simp only[go_sem,length_map,hgq,hrl,List.length_append];rfl)|rfl) (by first|(simp only[go_sem,length_map,hgq,hrl,List.length_append];rfl)|rfl) ?_|refine st_reg rfl (by first|(simp only[go_sem,length_map,hgq,hrl,List.length_append];rfl)|rfl) (by first|(simp only[go_sem,length_map,hgq,hrl,List.length_append];rfl)|rfl) ?_|refine st_seq_draw rfl (by first|(simp only[go_sem,length_map,hgq,hrl,List.length_append];rfl)|rfl) (by first|(simp only[go_sem,length_map,hgq,hrl,List.length_append];rfl)|rfl) ?_|refine st_op ?_|refine st_det rfl (by simp (disch:=omega) only[go_sem,wr_i64,if_yes,if_no,↓reduceIte,reduceAdd,reduceMul,reduceEqDiff,Nat.reduceBEq,reduceLeDiff,length_map,hgq,hrl,List.length_append];rfl) ?_|refine st_dop rfl ?_|(refine st_appS (by intro h id x y;simp only[go_sem];rfl) rfl (by simp only[go_sem,length_map,hgq,hrl,List.length_append];rfl) (by simp only[go_sem,length_map,hgq,hrl,List.length_append];rfl) (by decide) hS (fun _ _ _=>rfl) (by omega) (by simp only[length_map,List.length_cons,List.length_nil,big,length_map,hgq,hrl,List.length_append];omega) (by omega) (by omega) ?_;intro v' g' hA)|(refine st_condS rfl ?_ ?_ <;> intro hg <;> (try simp only[decide_eq_true_eq,decide_eq_false_iff_not,Bool.not_eq_true',Bool.not_eq_false'] at hg))|refine st_nil ?_|refine st_dnil ?_|refine st_tN ?_|refine st_seq ?_|refine st_block ?_|refine st_skip ?_|refine st_exit ?_|refine st_tE ?_|refine st_bN ?_|refine st_bH ?_)
    all_goals try (exfalso;omega)
    refine ⟨⟨q+1,v',_⟩,(by refine ⟨by show q+1≤_;omega,by rw [hnx,← List.append_assoc,List.map_append];exact hA.sl.to (fun _ _ _ _ _=>rfl) (by simp only[go_sem];omega),fun b' hb'=>(hA.old b' hb').trans (i3 b' hb'),hA.lp.trans i4,by simp only[go_sem];omega⟩),by show t.rooms.length - (q+1) < t.rooms.length - q;omega,(by repeat' (first|exact trivial|refine And.intro ?_ ?_|rfl|(simp (disch:=omega) only[go_sem,if_yes,if_no,↓reduceIte,reduceAdd,reduceMul,reduceEqDiff,Nat.reduceBEq,reduceLeDiff];rfl)|(simp (disch:=omega) only[go_sem,if_yes,if_no,↓reduceIte,reduceAdd,reduceMul,reduceEqDiff,Nat.reduceBEq,reduceLeDiff]))),(by repeat' (first|exact trivial|refine And.intro ?_ ?_|rfl|(simp (disch:=omega) only[go_sem,if_yes,if_no,↓reduceIte,reduceAdd,reduceMul,reduceEqDiff,Nat.reduceBEq,reduceLeDiff];rfl)|(simp (disch:=omega) only[go_sem,if_yes,if_no,↓reduceIte,reduceAdd,reduceMul,reduceEqDiff,Nat.reduceBEq,reduceLeDiff]))),rfl,HOld.refl _⟩
  · have hc1:crF t (elt s) st q=[]:=by unfold crF;rw [if_neg hb]
    rw [hc1,List.append_nil] at hnx
    repeat' (first|refine st_seq_reg rfl (by first|(simp only[go_sem,length_map,hgq,hrl];rfl)|rfl) (by first|(simp only[go_sem,length_map,hgq,hrl];rfl)|rfl) ?_|refine st_reg rfl (by first|(simp only[go_sem,length_map,hgq,hrl];rfl)|rfl) (by first|(simp only[go_sem,length_map,hgq,hrl];rfl)|rfl) ?_|refine st_seq_draw rfl (by first|(simp only[go_sem,length_map,hgq,hrl];rfl)|rfl) (by first|(simp only[go_sem,length_map,hgq,hrl];rfl)|rfl) ?_|refine st_op ?_|refine st_det rfl (by simp (disch:=omega) only[go_sem,wr_i64,if_yes,if_no,↓reduceIte,reduceAdd,reduceMul,reduceEqDiff,Nat.reduceBEq,reduceLeDiff,length_map,hgq,hrl];rfl) ?_|refine st_dop rfl ?_|(refine st_condS rfl ?_ ?_ <;> intro hg <;> (try simp only[decide_eq_true_eq,decide_eq_false_iff_not,Bool.not_eq_true',Bool.not_eq_false'] at hg))|refine st_nil ?_|refine st_dnil ?_|refine st_tN ?_|refine st_seq ?_|refine st_block ?_|refine st_skip ?_|refine st_exit ?_|refine st_tE ?_|refine st_bN ?_|refine st_bH ?_)
    all_goals try (exfalso;omega)
    refine ⟨⟨q+1,v,_⟩,(by refine ⟨by show q+1≤_;omega,by rw [hnx];exact hS.to (fun _ _ _ _ _=>rfl) (by simp only[go_sem];omega),fun b' hb'=>i3 b' hb',i4,by simp only[go_sem];omega⟩),by show t.rooms.length - (q+1) < t.rooms.length - q;omega,(by repeat' (first|exact trivial|refine And.intro ?_ ?_|rfl|(simp (disch:=omega) only[go_sem,if_yes,if_no,↓reduceIte,reduceAdd,reduceMul,reduceEqDiff,Nat.reduceBEq,reduceLeDiff];rfl)|(simp (disch:=omega) only[go_sem,if_yes,if_no,↓reduceIte,reduceAdd,reduceMul,reduceEqDiff,Nat.reduceBEq,reduceLeDiff]))),(by repeat' (first|exact trivial|refine And.intro ?_ ?_|rfl|(simp (disch:=omega) only[go_sem,if_yes,if_no,↓reduceIte,reduceAdd,reduceMul,reduceEqDiff,Nat.reduceBEq,reduceLeDiff];rfl)|(simp (disch:=omega) only[go_sem,if_yes,if_no,↓reduceIte,reduceAdd,reduceMul,reduceEqDiff,Nat.reduceBEq,reduceLeDiff]))),rfl,HOld.refl _⟩
theorem take_fnd {α:Type} {p:α→Bool} {l:List α} {i:Nat} (h:i < l.length) (hn:(l.take i).find? p=none):((l.take (i+1)).find? p=none∧p l[i]=false) ∨ (l.find? p=some l[i]∧p l[i]=true):=by
  cases hp:p l[i] with
  | false =>
    left
    refine ⟨?_,rfl⟩
    rw [List.take_succ_eq_append_getElem h,List.find?_append,hn]
    simp [hp]
  | true =>
    right
    refine ⟨?_,rfl⟩
    have e:l=l.take i ++ l[i] :: l.drop (i+1):=by
      rw [← List.drop_eq_getElem_cons h,List.take_append_drop]
    conv=>lhs;rw [e]
    rw [List.find?_append,hn,List.find?_cons,hp];rfl
theorem lel_get {l:List (List Int)} {i:Nat} (h:i < l.length):lel l i=l[i]:=by
  unfold lel;rw [List.getD_eq_getElem?_getD,List.getElem?_eq_getElem h];rfl
theorem closeV_some {t:Tw} (h0:chkE t=0) {A:List Int} (hc:clo t t.sts.length=some A):closeV t=.tup [.lst 1 (A.map iv),.int .i64 0]:=by
  unfold closeV;rw [if_neg (fun e=>e h0),hc]
theorem closeV_none {t:Tw} (h0:chkE t=0) (hc:clo t t.sts.length=none):closeV t=.tup [.lst 1 [],.int .i64 7]:=by
  unfold closeV;rw [if_neg (fun e=>e h0),hc]
theorem close_two {t:Tw} (h0:chkE t=0):∃ (A:List Int) (e5:Int),Pure Try.prog 36 [t.av] (fun v=>v=.tup [.lst 1 (A.map iv),.int .i64 e5])∧((e5=0∧clo t t.sts.length=some A) ∨ (e5=7∧A=[]∧clo t t.sts.length=none)):=by
  have k:=c36 t
  cases hc:clo t t.sts.length with
  | some A=>rw [closeV_some h0 hc] at k;exact ⟨A,0,k,.inl ⟨rfl,rfl⟩⟩
  | none=>rw [closeV_none h0 hc] at k;exact ⟨[],7,k,.inr ⟨rfl,rfl,rfl⟩⟩
def cloW (t:Tw) (M:Nat):AV:=match clo t M with
  | some l=>.tup [.lst 1 (l.map iv),.bool true]
  | none=>.tup [.lst 1 [],.bool false]
theorem le_nilb (z:Nat) (b:Bool):VLe (.tup [.nils,.bool b]) (.tup [.lst z [],.bool b]):=VLe.tup (by simp only[VLes];exact ⟨_,_,rfl,VLe.nils z,_,_,rfl,VLe.refl _,rfl⟩)
theorem c66 (t:Tw) (M:Nat) (hT:TwOk t) (hM:M≤12):Pure Try.prog 66 [t.av,.int .i64 (M:Nat)] (fun v=>v=cloW t M):=by
  have hsn:=hT.sn
  have ht0:t.av=.agg t.cells:=rfl
  refine Pure.give Try.call66 fun h hall=>?_
  refine ACalls.of tab mixed Try.call66 Try.func66 rfl (fi:=⟨46,[],[2],none,[(8,[0,0,0,0,12,28,62,127,255,511],[(0,true),(1,true),(2,false),(3,false),(4,false),(5,true),(6,false),(7,false),(8,false),(9,false)])]⟩) rfl rfl (Nat.le_of_ble_eq_true rfl) (by decide) ?_
  unfold startA
  rw [ht0]
  unfold Tw.cells
  repeat' (first|refine st_seq_reg rfl (by first|(simp only[go_sem];rfl)|rfl) (by first|(simp only[go_sem];rfl)|rfl) ?_|refine st_op ?_|refine st_det rfl (by simp (disch:=omega) only[go_sem,wr_i64,if_yes,if_no,↓reduceIte,reduceAdd,reduceMul,reduceEqDiff,Nat.reduceBEq,reduceLeDiff];rfl) ?_|refine st_nil ?_|refine st_seq ?_|refine st_block ?_)
  refine st_loopC (α:=Nat) tab mixed [] [] (by repeat (first|exact trivial|refine ⟨rfl,?_⟩)) [] [] (by repeat (first|exact trivial|refine ⟨rfl,?_⟩)) (fun m=>[(6,.int .i64 (m:Nat))]) [(1,_),(2,_)] (fun _=>[]) [] (fun m=>m≤min M t.sts.length+1∧(catN (fun m=>chs t.sts.length m 0) m).find? (fun l=>(crL t (cls l)).isEmpty)=none) (fun m=>min M t.sts.length+1 - m) (by decide) 0 ⟨Nat.zero_le _,rfl⟩ (by (try simp only[go_sem]);repeat' (first|exact trivial|refine And.intro ?_ ?_|rfl|(simp (disch:=omega) only[go_sem,if_yes,if_no,↓reduceIte,reduceAdd,reduceMul,reduceEqDiff,Nat.reduceBEq,reduceLeDiff];rfl)|(simp (disch:=omega) only[go_sem,if_yes,if_no,↓reduceIte,reduceAdd,reduceMul,reduceEqDiff,Nat.reduceBEq,reduceLeDiff]))) (by (try simp only[go_sem]);repeat' (first|exact trivial|refine And.intro ?_ ?_|rfl|(simp (disch:=omega) only[go_sem,if_yes,if_no,↓reduceIte,reduceAdd,reduceMul,reduceEqDiff,Nat.reduceBEq,reduceLeDiff];rfl)|(simp (disch:=omega) only[go_sem,if_yes,if_no,↓reduceIte,reduceAdd,reduceMul,reduceEqDiff,Nat.reduceBEq,reduceLeDiff]))) (by first|(simp only[go_sem];rfl)|rfl) (by intro n;simp only[go_sem];rfl) ?_
  rintro m d ⟨hm1,hm2⟩ hd
  simp only[go_sem]
  by_cases hm:m≤M∧m≤t.sts.length
  case neg =>
    have hme:m=min M t.sts.length+1:=by omega
    have hcl:clo t M=none:=by unfold clo chsAll;rw [← hme];exact hm2
    repeat' (first|refine st_seq_reg rfl (by first|(simp only[go_sem,length_map];rfl)|rfl) (by first|(simp only[go_sem,length_map];rfl)|rfl) ?_|refine st_op ?_|refine st_det rfl (by simp (disch:=omega) only[go_sem,wr_i64,if_yes,if_no,↓reduceIte,reduceAdd,reduceMul,reduceEqDiff,Nat.reduceBEq,reduceLeDiff,length_map];rfl) ?_|refine st_gT rfl rfl rfl ?_|refine st_gF rfl rfl rfl ?_|(refine st_gS rfl rfl ?_ ?_ <;> intro hg <;> (try simp only[decide_eq_true_eq,decide_eq_false_iff_not,Bool.not_eq_true',Bool.not_eq_false'] at hg))|refine st_condF rfl ?_|(refine st_condS rfl ?_ ?_ <;> intro hg <;> (try simp only[decide_eq_true_eq,decide_eq_false_iff_not,Bool.not_eq_true',Bool.not_eq_false'] at hg))|refine st_nil ?_|refine st_tN ?_|refine st_seq ?_|refine st_block ?_|refine st_skip ?_|refine st_exit ?_|refine st_ret ?_|refine st_tE ?_|refine st_bH ?_)
    all_goals try (exfalso;omega)
    all_goals
      simp (disch:=omega) only[AEnd,Try.results66,aresK,fin,go_sem,↓reduceIte,reduceEqDiff,reduceAdd,reduceLeDiff,if_yes,if_no,implies_true,true_and,and_true,List.reverse_cons,List.reverse_nil]
      exact .inl ⟨_,le_nilb 1 false,by unfold cloW;rw [hcl]⟩
  have k37:=c37 t.sts.length (by omega) m 0 (Nat.zero_le _) (by omega)
  have hCl:=(chs_len t.sts.length m 0 (Nat.zero_le _)).1
  have h2:(2:Nat) ^ (t.sts.length - 0)≤2 ^ 12:=Nat.pow_le_pow_right (by decide) (by omega)
  repeat' (first|refine st_seq_reg rfl (by first|(simp only[go_sem,length_map];rfl)|rfl) (by first|(simp only[go_sem,length_map];rfl)|rfl) ?_|refine st_op ?_|refine st_det rfl (by simp (disch:=omega) only[go_sem,wr_i64,if_yes,if_no,↓reduceIte,reduceAdd,reduceMul,reduceEqDiff,Nat.reduceBEq,reduceLeDiff,length_map];rfl) ?_|(refine st_pureE (by first|(simp (disch:=omega) only[go_sem,length_map];rfl)|rfl) rfl (k37) (by first|(simp only[go_sem,length_map];rfl)|rfl) (by intro n;first|(simp (disch:=omega) only[go_sem];rfl)|rfl) ?_;intro n hn)|refine st_gT rfl rfl rfl ?_|refine st_gF rfl rfl rfl ?_|(refine st_gS rfl rfl ?_ ?_ <;> intro hg <;> (try simp only[decide_eq_true_eq,decide_eq_false_iff_not,Bool.not_eq_true',Bool.not_eq_false'] at hg))|refine st_condF rfl ?_|(refine st_condS rfl ?_ ?_ <;> intro hg <;> (try simp only[decide_eq_true_eq,decide_eq_false_iff_not,Bool.not_eq_true',Bool.not_eq_false'] at hg))|refine st_nil ?_|refine st_tN ?_|refine st_seq ?_|refine st_block ?_|refine st_skip ?_|refine st_exit ?_|refine st_ret ?_|refine st_tE ?_|refine st_bH ?_)
  all_goals try (exfalso;omega)
  refine st_loopC (α:=Nat) tab mixed [] [] (by repeat (first|exact trivial|refine ⟨rfl,?_⟩)) [] [] (by repeat (first|exact trivial|refine ⟨rfl,?_⟩)) (fun i=>[(8,.int .i64 (i:Nat))]) [(1,_),(2,_),(6,_),(7,_)] (fun _=>[]) [] (fun i=>i≤(chs t.sts.length m 0).length∧((chs t.sts.length m 0).take i).find? (fun l=>(crL t (cls l)).isEmpty)=none) (fun i=>(chs t.sts.length m 0).length - i) (by decide) 0 ⟨Nat.zero_le _,rfl⟩ (by (try simp only[go_sem]);repeat' (first|exact trivial|refine And.intro ?_ ?_|rfl|(simp (disch:=omega) only[go_sem,if_yes,if_no,↓reduceIte,reduceAdd,reduceMul,reduceEqDiff,Nat.reduceBEq,reduceLeDiff];rfl)|(simp (disch:=omega) only[go_sem,if_yes,if_no,↓reduceIte,reduceAdd,reduceMul,reduceEqDiff,Nat.reduceBEq,reduceLeDiff]))) (by (try simp only[go_sem]);repeat' (first|exact trivial|refine And.intro ?_ ?_|rfl|(simp (disch:=omega) only[go_sem,if_yes,if_no,↓reduceIte,reduceAdd,reduceMul,reduceEqDiff,Nat.reduceBEq,reduceLeDiff];rfl)|(simp (disch:=omega) only[go_sem,if_yes,if_no,↓reduceIte,reduceAdd,reduceMul,reduceEqDiff,Nat.reduceBEq,reduceLeDiff]))) (by first|(simp only[go_sem];rfl)|rfl) (by intro n;simp only[go_sem];rfl) ?_
  rintro i d2 ⟨hi1,hi2⟩ hd2
  simp only[go_sem]
  by_cases hi:i < (chs t.sts.length m 0).length
  case neg =>
    obtain rfl:i=(chs t.sts.length m 0).length:=by omega
    rw [List.take_length] at hi2
    repeat' (first|refine st_seq_reg rfl (by first|(simp only[go_sem,length_map];rfl)|rfl) (by first|(simp only[go_sem,length_map];rfl)|rfl) ?_|refine st_reg rfl (by first|(simp only[go_sem,length_map];rfl)|rfl) (by first|(simp only[go_sem,length_map];rfl)|rfl) ?_|refine st_seq_draw rfl (by first|(simp only[go_sem,length_map];rfl)|rfl) (by first|(simp only[go_sem,length_map];rfl)|rfl) ?_|refine st_op ?_|refine st_det rfl (by simp (disch:=omega) only[go_sem,wr_i64,if_yes,if_no,↓reduceIte,reduceAdd,reduceMul,reduceEqDiff,Nat.reduceBEq,reduceLeDiff,length_map];rfl) ?_|refine st_dop rfl ?_|(refine st_condS rfl ?_ ?_ <;> intro hg <;> (try simp only[decide_eq_true_eq,decide_eq_false_iff_not,Bool.not_eq_true',Bool.not_eq_false'] at hg))|refine st_nil ?_|refine st_tN ?_|refine st_seq ?_|refine st_block ?_|refine st_skip ?_|refine st_exit ?_|refine st_tE ?_|refine st_bN ?_|refine st_bH ?_)
    all_goals try (exfalso;omega)
    refine ⟨m+1,⟨by show m+1≤_;omega,fnd_none hm2 hi2⟩,by show min M t.sts.length+1 - (m+1) < min M t.sts.length+1 - m;omega,(by repeat' (first|exact trivial|refine And.intro ?_ ?_|rfl|(simp (disch:=omega) only[go_sem,if_yes,if_no,↓reduceIte,reduceAdd,reduceMul,reduceEqDiff,Nat.reduceBEq,reduceLeDiff];rfl)|(simp (disch:=omega) only[go_sem,if_yes,if_no,↓reduceIte,reduceAdd,reduceMul,reduceEqDiff,Nat.reduceBEq,reduceLeDiff]))),(by repeat' (first|exact trivial|refine And.intro ?_ ?_|rfl|(simp (disch:=omega) only[go_sem,if_yes,if_no,↓reduceIte,reduceAdd,reduceMul,reduceEqDiff,Nat.reduceBEq,reduceLeDiff];rfl)|(simp (disch:=omega) only[go_sem,if_yes,if_no,↓reduceIte,reduceAdd,reduceMul,reduceEqDiff,Nat.reduceBEq,reduceLeDiff]))),rfl,(by first|exact HOld.of _ (by omega)|exact HOld.put _ _ _ (by omega))⟩
  have hx:=chs_ok (t:=t) m 0 (lel (chs t.sts.length m 0) i) (lel_mem hi)
  have hfn:=take_fnd hi hi2
  rw [← lel_get hi] at hfn
  have hrow:=rowA_getD (l:=chs t.sts.length m 0) (i:=i) hi
  generalize lel (chs t.sts.length m 0) i=x at *
  have k81:=c81 t x (by omega) hsn (fun j hj=>by have:=hx.2.1 j hj;omega)
  have k91:=c91 t (refS t.sts.length (cls x)) hT (refS_len _ _)
  rw [crL_ext hT (g:=cls x) fun j hj=>refS_elt hj] at k91
  have hcr:=crL_len hT (cls x)
  have hemp:(crL t (cls x)).isEmpty=decide (((crL t (cls x)).length:Int)=0):=by
    cases crL t (cls x) with
    | nil=>rfl
    | cons a b=>rw [decide_eq_false (by simp;omega)];rfl
  generalize hCR:crL t (cls x)=CR at *
  by_cases he:(CR.length:Int)=0
  · rw [decide_eq_true he] at hemp
    rcases hfn with ⟨_,h2⟩|⟨h1,_⟩
    · rw [hemp] at h2;cases h2
    have hcl:clo t M=some x:=by
      unfold clo chsAll
      exact catN_fpre (k:=m+1) (fnd_some hm2 h1) (by omega)
    repeat' (first|refine st_seq_reg rfl (by first|(simp only[go_sem,length_map,hrow,he];rfl)|rfl) (by first|(simp only[go_sem,length_map,hrow,he];rfl)|rfl) ?_|refine st_reg rfl (by first|(simp only[go_sem,length_map,hrow,he];rfl)|rfl) (by first|(simp only[go_sem,length_map,hrow,he];rfl)|rfl) ?_|refine st_seq_draw rfl (by first|(simp only[go_sem,length_map,hrow,he];rfl)|rfl) (by first|(simp only[go_sem,length_map,hrow,he];rfl)|rfl) ?_|refine st_op ?_|refine st_det rfl (by simp (disch:=omega) only[go_sem,wr_i64,if_yes,if_no,↓reduceIte,reduceAdd,reduceMul,reduceEqDiff,Nat.reduceBEq,reduceLeDiff,length_map,hrow,he];rfl) ?_|refine st_dop rfl ?_|(refine st_pureE (by first|(simp (disch:=omega) only[go_sem,length_map,hrow,he];rfl)|rfl) rfl (k81) (by first|(simp only[go_sem,length_map,hrow,he];rfl)|rfl) (by intro n;first|(simp (disch:=omega) only[go_sem];rfl)|rfl) ?_;intro n hn)|(refine st_pureE (by first|(simp (disch:=omega) only[go_sem,length_map,hrow,he];rfl)|rfl) rfl (k91) (by first|(simp only[go_sem,length_map,hrow,he];rfl)|rfl) (by intro n;first|(simp (disch:=omega) only[go_sem];rfl)|rfl) ?_;intro n hn)|refine st_condT rfl ?_|(refine st_condS rfl ?_ ?_ <;> intro hg <;> (try simp only[decide_eq_true_eq,decide_eq_false_iff_not,Bool.not_eq_true',Bool.not_eq_false'] at hg))|refine st_nil ?_|refine st_dnil ?_|refine st_tN ?_|refine st_seq ?_|refine st_block ?_|refine st_skip ?_|refine st_exit ?_|refine st_ret ?_|refine st_tE ?_|refine st_tR ?_|refine st_bN ?_|refine st_bR ?_|refine st_bH ?_)
    all_goals try (exfalso;omega)
    simp (disch:=omega) only[AEnd,Try.results66,aresK,fin,go_sem,↓reduceIte,reduceEqDiff,reduceAdd,reduceLeDiff,if_yes,if_no,implies_true,true_and,and_true,List.reverse_cons,List.reverse_nil]
    exact .inl ⟨_,VLe.refl _,by unfold cloW;rw [hcl]⟩
  · rw [decide_eq_false he] at hemp
    rcases hfn with ⟨h1,_⟩|⟨_,h2⟩
    · repeat' (first|refine st_seq_reg rfl (by first|(simp only[go_sem,length_map,hrow];rfl)|rfl) (by first|(simp only[go_sem,length_map,hrow];rfl)|rfl) ?_|refine st_reg rfl (by first|(simp only[go_sem,length_map,hrow];rfl)|rfl) (by first|(simp only[go_sem,length_map,hrow];rfl)|rfl) ?_|refine st_seq_draw rfl (by first|(simp only[go_sem,length_map,hrow];rfl)|rfl) (by first|(simp only[go_sem,length_map,hrow];rfl)|rfl) ?_|refine st_op ?_|refine st_det rfl (by simp (disch:=omega) only[go_sem,wr_i64,if_yes,if_no,↓reduceIte,reduceAdd,reduceMul,reduceEqDiff,Nat.reduceBEq,reduceLeDiff,length_map,hrow];rfl) ?_|refine st_dop rfl ?_|(refine st_pureE (by first|(simp (disch:=omega) only[go_sem,length_map,hrow];rfl)|rfl) rfl (k81) (by first|(simp only[go_sem,length_map,hrow];rfl)|rfl) (by intro n;first|(simp (disch:=omega) only[go_sem];rfl)|rfl) ?_;intro n hn)|(refine st_pureE (by first|(simp (disch:=omega) only[go_sem,length_map,hrow];rfl)|rfl) rfl (k91) (by first|(simp only[go_sem,length_map,hrow];rfl)|rfl) (by intro n;first|(simp (disch:=omega) only[go_sem];rfl)|rfl) ?_;intro n hn)|(refine st_condS rfl ?_ ?_ <;> intro hg <;> (try simp only[decide_eq_true_eq,decide_eq_false_iff_not,Bool.not_eq_true',Bool.not_eq_false'] at hg))|refine st_nil ?_|refine st_dnil ?_|refine st_tN ?_|refine st_seq ?_|refine st_block ?_|refine st_skip ?_|refine st_exit ?_|refine st_ret ?_|refine st_tE ?_|refine st_tR ?_|refine st_bN ?_|refine st_bR ?_|refine st_bH ?_)
      all_goals try (exfalso;omega)
      refine ⟨i+1,⟨by show i+1≤_;omega,h1⟩,by show (chs t.sts.length m 0).length - (i+1) < (chs t.sts.length m 0).length - i;omega,(by repeat' (first|exact trivial|refine And.intro ?_ ?_|rfl|(simp (disch:=omega) only[go_sem,if_yes,if_no,↓reduceIte,reduceAdd,reduceMul,reduceEqDiff,Nat.reduceBEq,reduceLeDiff];rfl)|(simp (disch:=omega) only[go_sem,if_yes,if_no,↓reduceIte,reduceAdd,reduceMul,reduceEqDiff,Nat.reduceBEq,reduceLeDiff]))),(by repeat' (first|exact trivial|refine And.intro ?_ ?_|rfl|(simp (disch:=omega) only[go_sem,if_yes,if_no,↓reduceIte,reduceAdd,reduceMul,reduceEqDiff,Nat.reduceBEq,reduceLeDiff];rfl)|(simp (disch:=omega) only[go_sem,if_yes,if_no,↓reduceIte,reduceAdd,reduceMul,reduceEqDiff,Nat.reduceBEq,reduceLeDiff]))),rfl,(by first|exact HOld.of _ (by omega)|exact HOld.put _ _ _ (by omega))⟩
    · rw [hemp] at h2;cases h2
end Go.Proofs.Ythjbfdfhblloiaa
