/- Contracts of functions that the claim reaches: what each call gives, told in our own logic. Conditions: those of each theorem. -/
import Derived.Test.YtefogfgddofdmaaDoorG7
import Derived.Test.YtefogfgddofdmaaDoorG9
open List (length_map)
set_option linter.all false
set_option linter.unusedSimpArgs false
set_option linter.unusedVariables false
namespace Go.Proofs.YtefogfgddofdmaaDoor
open Go.Av
attribute [local irreducible] thenA blockA awp awpOps awpD awp1
attribute [local go_sem_proc] Nat.reduceAdd Nat.reduceMul Nat.reduceEqDiff Nat.reduceBEq Nat.reduceLeDiff
attribute [local go_sem_proc ↓] reduceIte
attribute [local go_sem] if_yes if_no
set_option maxHeartbeats 8000000
set_option maxRecDepth 20000
def elt (l:List Int) (i:Nat):Int:=l.getD i 0
def sumL (l:List Int):Int:=sumF (elt l) l.length
def drwE (ts ss:List Int):Int :=
 if 12 < ts.length then 5 else if allIn 0 1000 ts=false then 2 else if ss.length ≠ ts.length then 1 else if allIn 0 1000000000 ss=false then 2 else if sumL ts=0 then 4 else 0
def drwR (ts ss:List Int) (v:AV):Prop :=
 if drwE ts ss ≠ 0 then v=.tup [.int .i64 0,.int .i64 0,.int .i64 (drwE ts ss)] else
 ∃ k:Nat,k < ts.length∧sumF (elt ts) k≤(sumL ss).tmod (sumL ts)∧(sumL ss).tmod (sumL ts) < sumF (elt ts) (k+1)∧v=.tup [.int .i64 ((sumL ss).tmod (sumL ts)),.int .i64 (k:Nat),.int .i64 0]
theorem allIn_elt {lo hi:Int} {l:List Int} (h:allIn lo hi l=true) (i:Nat) (hi':i < l.length):lo≤elt l i∧elt l i≤hi:=by
 have:=List.all_eq_true.1 h (elt l i) (by unfold elt;rw [List.getD_eq_getElem?_getD,List.getElem?_eq_getElem hi'];exact List.getElem_mem _)
 exact of_decide_eq_true this
theorem sumL_nn {lo hi:Int} (h0:0≤lo) {l:List Int} (h:allIn lo hi l=true):∀ i,i≤l.length→0≤sumF (elt l) i:=fun i hi =>
 sumF_nn fun j hj=>by have:=allIn_elt h j (by omega);omega
theorem sumL_bd {lo hi:Int} (h0:0≤lo) {l:List Int} (h:allIn lo hi l=true) (i:Nat) (hi':i≤l.length):sumF (elt l) i≤i * hi:=by
 by_cases e:i=0
 ·subst e;show (0:Int)≤_;simp
 have:=sumF_bd (F:=elt l) (B:=hi) i (fun j hj=>by have:=allIn_elt h j (by omega);omega)
 exact this.2
theorem sumL_mono {l:List Int} {lo hi:Int} (h0:0≤lo) (h:allIn lo hi l=true):∀ {j i:Nat},i≤j→j≤l.length→sumF (elt l) i≤sumF (elt l) j
  | 0, i, hij, _ => by obtain rfl : i = 0 := by omega
                       exact Int.le_refl _
  | j+1,i,hij,hj=>by
    by_cases e:i=j+1
    · subst e;exact Int.le_refl _
    · have h1:=sumL_mono h0 h (j:=j) (i:=i) (by omega) (by omega)
      have h2:=allIn_elt h j (by omega)
      show _≤sumF (elt l) j+elt l j
      omega
theorem all_stepP {p:Nat→Prop} {i:Nat} (h:∀ j,j < i→p j) (hi:p i):∀ j,j < i+1→p j:=fun j hj=>by
 by_cases e:j=i
 ·rw [e];exact hi
 ·exact h j (by omega)
theorem c36 (i n:Int):Pure Tryd.prog 36 ([.int .i64 i,.int .i64 n] ++ []) (fun v=>v=.int .i64 n):=by
 intro h
 refine ACalls.forget (ACalls.of tab mixed Tryd.call36 Tryd.func36 rfl (fi:=⟨6,[],[],none,[]⟩) rfl rfl (Nat.le_of_ble_eq_true rfl) (by decide) ?_)
 unfold startA
 repeat' (first|refine st_seq_reg rfl (by first|(simp only[go_sem];rfl)|rfl) (by first|(simp only[go_sem];rfl)|rfl) ?_|refine st_reg rfl (by first|(simp only[go_sem];rfl)|rfl) (by first|(simp only[go_sem];rfl)|rfl) ?_|refine st_op ?_|refine st_det rfl (by simp (disch:=omega) only[go_sem,wr_i64];rfl) ?_|refine st_nil ?_|refine st_tN ?_|refine st_seq ?_|refine st_skip ?_|refine st_ret ?_|refine st_tE ?_|refine st_tR ?_)
 simp (disch:=omega) only[AEnd,Tryd.results36,aresK,fin,go_sem,implies_true,true_and,and_true,List.reverse_cons,List.reverse_nil]
theorem c29n (l:List Int) {lo hi:Int} (h0:0≤lo) (h1:hi≤1000000000) (hl:l.length≤1000) (ha:allIn lo hi l=true):Pure Tryd.prog 29 [.lst 1 (l.map iv),.fn (.func 36) [] []] (fun v=>v=.int .i64 (sumL l)) :=
 c29 l 36 [] (elt l) rfl hl (fun i hi=>by have:=allIn_elt ha i hi;omega) (fun i _=>c36 i (elt l i))
theorem tk_bd {ts ss:List Int} (h1:allIn 0 1000 ts=true) (h2:allIn 0 1000000000 ss=true) (hn:¬ sumL ts=0):0 < sumL ts∧0≤(sumL ss).tmod (sumL ts)∧(sumL ss).tmod (sumL ts) < sumL ts:=by
 have a:=sumL_nn (by omega) h1 ts.length (Nat.le_refl _)
 have b:=sumL_nn (by omega) h2 ss.length (Nat.le_refl _)
 have a':0≤sumL ts:=a
 exact ⟨by omega,Int.tmod_nonneg _ b,Int.tmod_lt_of_pos _ (by omega)⟩
theorem c17 (ts ss:List Int) (hl:(ts.length:Int) < 1000000) (hs:(ss.length:Int) < 1000000):Pure Tryd.prog 17 [.lst 1 (ts.map iv),.lst 1 (ss.map iv)] (drwR ts ss):=by
 intro h
 refine ACalls.forget (ACalls.of tab mixed Tryd.call17 Tryd.func17 rfl (fi:=⟨55,[],[],none,[]⟩) rfl rfl (Nat.le_of_ble_eq_true rfl) (by decide) ?_)
 unfold startA
 repeat' (first|refine st_seq_reg rfl (by first|(simp only[go_sem,Lm];rfl)|rfl) (by first|(simp only[go_sem,Lm];rfl)|rfl) ?_|refine st_reg rfl (by first|(simp only[go_sem,Lm];rfl)|rfl) (by first|(simp only[go_sem,Lm];rfl)|rfl) ?_|refine st_op ?_|refine st_det rfl (by simp (disch:=omega) only[go_sem,wr_i64,Lm];rfl) ?_|(refine st_pureE (by first|(simp (disch:=omega) only[go_sem,Lm];rfl)|rfl) rfl (c21 _ _ ts hl) (by first|(simp only[go_sem,Lm];rfl)|rfl) (by intro n;first|(simp (disch:=omega) only[go_sem];rfl)|rfl) ?_;intro n hn)|(refine st_pureE (by first|(simp (disch:=omega) only[go_sem,Lm];rfl)|rfl) rfl (c21 _ _ ss hs) (by first|(simp only[go_sem,Lm];rfl)|rfl) (by intro n;first|(simp (disch:=omega) only[go_sem];rfl)|rfl) ?_;intro n hn)|(refine st_pureE (by first|(simp (disch:=omega) only[go_sem,Lm];rfl)|rfl) rfl (c29n (lo:=0) (hi:=1000) ts (by decide) (by decide) (by omega) (by assumption)) (by first|(simp only[go_sem,Lm];rfl)|rfl) (by intro n;first|(simp (disch:=omega) only[go_sem];rfl)|rfl) ?_;intro n hn)|(refine st_pureE (by first|(simp (disch:=omega) only[go_sem,Lm];rfl)|rfl) rfl (c29n (lo:=0) (hi:=1000000000) ss (by decide) (by decide) (by omega) (by assumption)) (by first|(simp only[go_sem,Lm];rfl)|rfl) (by intro n;first|(simp (disch:=omega) only[go_sem];rfl)|rfl) ?_;intro n hn)|refine st_condT rfl ?_|refine st_condF rfl ?_|(refine st_condS rfl ?_ ?_ <;> intro hg <;> (try simp only[dcT,dcF,bnT,bnF] at hg))|refine st_nil ?_|refine st_tN ?_|refine st_seq ?_|refine st_block ?_|refine st_skip ?_|refine st_exit ?_|refine st_ret ?_|refine st_tE ?_|refine st_tR ?_|refine st_bN ?_|refine st_bR ?_|refine st_bH ?_|refine st_bM rfl ?_)
 ·simp (disch:=omega) only[AEnd,Tryd.results17,aresK,fin,go_sem,implies_true,true_and,and_true,List.reverse_cons,List.reverse_nil]
  have e:drwE ts ss=5:=by unfold drwE;rw [if_pos (by omega)]
  unfold drwR;rw [e,if_pos (by decide)]
 ·have e:drwE ts ss=2:=by unfold drwE;rw [if_neg (by omega),if_pos (by assumption)]
  simp (disch:=omega) only[AEnd,Tryd.results17,aresK,fin,go_sem,implies_true,true_and,and_true,List.reverse_cons,List.reverse_nil]
  unfold drwR;rw [e,if_pos (by decide)]
 ·have e:drwE ts ss=1:=by unfold drwE;rw [if_neg (by omega),if_neg (by simp [*]),if_pos (by omega)]
  simp (disch:=omega) only[AEnd,Tryd.results17,aresK,fin,go_sem,implies_true,true_and,and_true,List.reverse_cons,List.reverse_nil]
  unfold drwR;rw [e,if_pos (by decide)]
 ·have e:drwE ts ss=2:=by unfold drwE;rw [if_neg (by omega),if_neg (by simp [*]),if_neg (by omega),if_pos (by assumption)]
  simp (disch:=omega) only[AEnd,Tryd.results17,aresK,fin,go_sem,implies_true,true_and,and_true,List.reverse_cons,List.reverse_nil]
  unfold drwR;rw [e,if_pos (by decide)]
 ·have e:drwE ts ss=4:=by unfold drwE;rw [if_neg (by omega),if_neg (by simp [*]),if_neg (by omega),if_neg (by simp [*]),if_pos (by assumption)]
  simp (disch:=omega) only[AEnd,Tryd.results17,aresK,fin,go_sem,implies_true,true_and,and_true,List.reverse_cons,List.reverse_nil]
  unfold drwR;rw [e,if_pos (by decide)]
 have t1:allIn 0 1000 ts=true:=by assumption
 have t2:allIn 0 1000000000 ss=true:=by assumption
 obtain ⟨p1,p2,p3⟩:=tk_bd t1 t2 hg
 have q1:sumL ts≤ts.length * 1000:=sumL_bd (by decide) t1 ts.length (Nat.le_refl _)
 have q2:sumL ss≤ss.length * 1000000000:=sumL_bd (by decide) t2 ss.length (Nat.le_refl _)
 have q3:0≤sumL ss:=sumL_nn (by decide) t2 ss.length (Nat.le_refl _)
 have e:drwE ts ss=0:=by unfold drwE;rw [if_neg (by omega),if_neg (by simp [*]),if_neg (by omega),if_neg (by simp [*]),if_neg hg]
 have hlast:sumF (elt ts) ts.length=sumL ts:=rfl
 have hR:∀ v,(∃ k:Nat,k < ts.length∧sumF (elt ts) k≤(sumL ss).tmod (sumL ts)∧(sumL ss).tmod (sumL ts) < sumF (elt ts) (k+1)∧v=.tup [.int .i64 ((sumL ss).tmod (sumL ts)),.int .i64 (k:Nat),.int .i64 0])→drwR ts ss v:=fun v hv=>by
  unfold drwR;rw [e,if_neg (by decide)];exact hv
 generalize (sumL ss).tmod (sumL ts)=T at *
 repeat' (first|refine st_seq_reg rfl (by first|(simp only[go_sem];rfl)|rfl) (by first|(simp only[go_sem];rfl)|rfl) ?_|refine st_reg rfl (by first|(simp only[go_sem];rfl)|rfl) (by first|(simp only[go_sem];rfl)|rfl) ?_|refine st_op ?_|refine st_det rfl (by simp (disch:=omega) only[go_sem,wr_i64];rfl) ?_|refine st_condT rfl ?_|refine st_condF rfl ?_|(refine st_condS rfl ?_ ?_ <;> intro hg <;> (try simp only[dcT,dcF,bnT,bnF] at hg))|refine st_nil ?_|refine st_tN ?_|refine st_seq ?_|refine st_block ?_|refine st_skip ?_|refine st_exit ?_|refine st_ret ?_|refine st_tE ?_|refine st_tR ?_|refine st_bN ?_|refine st_bR ?_|refine st_bH ?_|refine st_bM rfl ?_)
 have hn0:0 < ts.length:=by
  rcases Nat.eq_zero_or_pos ts.length with h0|h0
  ·exfalso;rw [← hlast,h0] at p1;exact absurd p1 (Int.lt_irrefl 0)
  ·exact h0
 refine st_loopC (α:=Nat × Int) tab mixed [] [] (by repeat (first|exact trivial|refine ⟨rfl,?_⟩)) [] [] (by repeat (first|exact trivial|refine ⟨rfl,?_⟩)) (fun a=>[(5,.int .i64 (a.1:Nat)),(9,.int .i64 a.2)]) [(0,_),(4,_)] (fun _=>[]) [] (fun a=>a.1 < ts.length∧sumF (elt ts) a.1≤T∧a.2=T - sumF (elt ts) a.1) (fun a=>ts.length - a.1) (by decide) (0,T) ⟨hn0,p2,by show T=T - 0;omega⟩ (by (try simp only[go_sem]);repeat' (first|exact trivial|refine And.intro ?_ ?_|rfl|(simp (disch:=omega) only[go_sem,if_yes,if_no,if_no];rfl)|(simp (disch:=omega) only[go_sem,if_yes,if_no,if_no]))) (by (try simp only[go_sem]);repeat' (first|exact trivial|refine And.intro ?_ ?_|rfl|(simp (disch:=omega) only[go_sem,if_yes,if_no,if_no];rfl)|(simp (disch:=omega) only[go_sem,if_yes,if_no,if_no]))) (by first|(simp only[go_sem];rfl)|rfl) (by intro n;simp only[go_sem];rfl) ?_
 rintro ⟨k,r⟩ c ⟨k1,k2,k3⟩ hc
 dsimp only at k1 k2 k3
 simp only[go_sem]
 have hk:=allIn_elt t1 k k1
 have hnn:=sumL_nn (by decide) t1 k (by omega)
 have hr:sumF (elt ts) (k+1)=sumF (elt ts) k+elt ts k:=rfl
 have he:ts.getD k 0=elt ts k:=rfl
 repeat' (first|refine st_seq_reg rfl (by first|(simp only[go_sem,he];rfl)|rfl) (by first|(simp only[go_sem,he];rfl)|rfl) ?_|refine st_reg rfl (by first|(simp only[go_sem,he];rfl)|rfl) (by first|(simp only[go_sem,he];rfl)|rfl) ?_|refine st_op ?_|refine st_det rfl (by simp (disch:=omega) only[go_sem,wr_i64,he];rfl) ?_|refine st_condT rfl ?_|refine st_condF rfl ?_|(refine st_condS rfl ?_ ?_ <;> intro hg <;> (try simp only[dcT,dcF,bnT,bnF] at hg))|refine st_nil ?_|refine st_tN ?_|refine st_seq ?_|refine st_block ?_|refine st_skip ?_|refine st_exit ?_|refine st_ret ?_|refine st_tE ?_|refine st_tR ?_|refine st_bN ?_|refine st_bR ?_|refine st_bH ?_|refine st_bM rfl ?_)
 ·have hk2:k+1 < ts.length:=by
   rcases Nat.lt_or_ge (k+1) ts.length with h'|h'
   ·exact h'
   ·obtain rfl':k+1=ts.length:=by omega
    rw [rfl',hlast] at hr
    omega
  refine ⟨(k+1,r - elt ts k),⟨hk2,by show sumF (elt ts) (k+1)≤T;omega,by show r - elt ts k=T - sumF (elt ts) (k+1);omega⟩,by show ts.length - (k+1) < ts.length - k;omega,(by repeat' (first|exact trivial|refine And.intro ?_ ?_|rfl|(simp (disch:=omega) only[go_sem,if_yes,if_no,if_no];rfl)|(simp (disch:=omega) only[go_sem,if_yes,if_no,if_no]))),(by repeat' (first|exact trivial|refine And.intro ?_ ?_|rfl|(simp (disch:=omega) only[go_sem,if_yes,if_no,if_no];rfl)|(simp (disch:=omega) only[go_sem,if_yes,if_no,if_no]))),rfl,(by first|exact HOld.of _ (by omega)|exact HOld.put _ _ _ (by omega))⟩
 ·simp (disch:=omega) only[AEnd,Tryd.results17,aresK,fin,go_sem,implies_true,true_and,and_true,List.reverse_cons,List.reverse_nil]
  exact hR _ ⟨k,k1,k2,by omega,rfl⟩
def holdK (ts:List Int) (T:Int):Nat:=((List.range ts.length).find? fun k=>decide (T < sumF (elt ts) (k+1))).getD 0
def drwT (ts ss:List Int):Int:=if drwE ts ss ≠ 0 then 0 else (sumL ss).tmod (sumL ts)
def drwH (ts ss:List Int):Int:=if drwE ts ss ≠ 0 then 0 else ((holdK ts ((sumL ss).tmod (sumL ts)):Nat):Int)
theorem drwE_all {ts ss:List Int} (h:drwE ts ss=0):ts.length≤12∧allIn 0 1000 ts=true∧ss.length=ts.length∧allIn 0 1000000000 ss=true∧¬ sumL ts=0:=by
 unfold drwE at h
 split at h
 ·omega
 split at h
 ·omega
 split at h
 ·omega
 split at h
 ·omega
 split at h
 ·omega
 rename_i h1 h2 h3 h4 h5
 exact ⟨by omega,by simpa using h2,by omega,by simpa using h4,h5⟩
theorem find_range {p:Nat→Bool} {n k:Nat} (hk:k < n) (hp:p k=true) (hl:∀ j,j < k→p j=false):(List.range n).find? p=some k:=by
 rw [List.find?_range_eq_some]
 exact ⟨hp,List.mem_range.2 hk,fun j hj=>by simp [hl j hj]⟩
theorem holdK_eq {ts:List Int} (h:allIn 0 1000 ts=true) {T:Int} {k:Nat} (hk:k < ts.length) (h1:sumF (elt ts) k≤T) (h2:T < sumF (elt ts) (k+1)):holdK ts T=k:=by
 unfold holdK
 rw [find_range (p:=fun k=>decide (T < sumF (elt ts) (k+1))) hk (decide_eq_true h2) (fun j hj=>decide_eq_false (by have:=sumL_mono (by decide) h (j:=k) (i:=j+1) (by omega) (by omega);omega))]
 rfl
theorem drwR_v {ts ss:List Int} {v:AV} (h:drwR ts ss v):v=.tup [.int .i64 (drwT ts ss),.int .i64 (drwH ts ss),.int .i64 (drwE ts ss)]:=by
 unfold drwR at h
 unfold drwT drwH
 split at h
 ·rename_i he
  rw [if_pos he,if_pos he];exact h
 ·rename_i he
  have he0:drwE ts ss=0:=by omega
  obtain ⟨a1,a2,a3,a4,a5⟩:=drwE_all he0
  obtain ⟨k,k1,k2,k3,rfl⟩:=h
  rw [if_neg he,if_neg he,holdK_eq a2 k1 k2 k3,he0]
theorem c17v (ts ss:List Int) (hl:(ts.length:Int) < 1000000) (hs:(ss.length:Int) < 1000000):Pure Tryd.prog 17 [.lst 1 (ts.map iv),.lst 1 (ss.map iv)] (fun v=>v=.tup [.int .i64 (drwT ts ss),.int .i64 (drwH ts ss),.int .i64 (drwE ts ss)]) :=
 fun h=>(c17 ts ss hl hs h).mono fun _ _ q=>⟨q.1,drwR_v q.2⟩
end Go.Proofs.YtefogfgddofdmaaDoor

namespace Go.Proofs.YtefogfgddofdmaaDoor
open Go.Av
attribute [local irreducible] thenA blockA awp awpOps awpD awp1
attribute [local go_sem_proc] Nat.reduceAdd Nat.reduceMul Nat.reduceEqDiff Nat.reduceBEq Nat.reduceLeDiff
attribute [local go_sem_proc ↓] reduceIte
attribute [local go_sem] if_yes if_no
set_option maxHeartbeats 8000000
set_option maxRecDepth 20000
def fs0:List Fd:=[⟨0,30,1000,[0,1]⟩,⟨5,20,500,[1]⟩,⟨0,40,300,[0,1,2]⟩]
def bs0 (m:Int):List Bl:=[⟨10,1,600⟩,⟨15,0,m⟩,⟨35,2,200⟩]
def lg0 (m:Int):Lg:=⟨fs0,bs0 m⟩
theorem c4:Pure Tryd.prog 4 [] (fun v=>v=(lg0 900).av):=by
 intro h
 refine ACalls.forget (ACalls.of tab mixed Tryd.call4 Tryd.func4 rfl (fi:=⟨13,[0],[1,3,5,7,11],none,[]⟩) rfl rfl (Nat.le_of_ble_eq_true rfl) (by decide) ?_)
 unfold startA
 repeat' (first|refine st_seq_reg rfl (by first|(simp only[go_sem];rfl)|rfl) (by first|(simp only[go_sem];rfl)|rfl) ?_|refine st_reg rfl (by first|(simp only[go_sem];rfl)|rfl) (by first|(simp only[go_sem];rfl)|rfl) ?_|refine st_op ?_|refine st_det rfl (by simp (disch:=omega) only[go_sem,wr_i64];rfl) ?_|refine st_loc rfl (by simp (disch:=omega) only[go_sem,wr_i64];rfl) ?_|refine st_heap rfl (by simp (disch:=omega) only[go_sem,wr_i64];rfl) ?_|refine st_store (by simp (disch:=omega) only[go_sem,wr_i64];rfl) ?_|refine st_nil ?_|refine st_tN ?_|refine st_seq ?_|refine st_skip ?_|refine st_ret ?_|refine st_tE ?_|refine st_tR ?_)
 simp (disch:=omega) only[AEnd,Tryd.results4,aresK,fin,go_sem,implies_true,true_and,and_true,List.reverse_cons,List.reverse_nil]
 rfl
theorem c4h (h:AH):ACalls Tryd.prog 4 [] h (fun v h'=>∃ bb n,v=.agg [.lst 4 (fs0.map Fd.row),.slc bb 3 0 3]∧h.clk≤bb.1∧bb.1 < n∧h'=(h.tick n).put bb (some ⟨3,(bs0 900).map Bl.row⟩)):=by
 refine ACalls.mono (Q:=fun v h'=>v=.agg [.lst 4 (fs0.map Fd.row),.slc (h.clk+1,11) 3 0 3]∧h'=(h.tick (h.clk+1+1)).put (h.clk+1,11) (some ⟨3,(bs0 900).map Bl.row⟩)) ?_ ?_
 ·refine ACalls.of tab mixed Tryd.call4 Tryd.func4 rfl (fi:=⟨13,[0],[1,3,5,7],none,[]⟩) rfl rfl (Nat.le_of_ble_eq_true rfl) (by decide) ?_
  unfold startA
  repeat' (first|refine st_seq_reg rfl (by first|(simp only[go_sem];rfl)|rfl) (by first|(simp only[go_sem];rfl)|rfl) ?_|refine st_reg rfl (by first|(simp only[go_sem];rfl)|rfl) (by first|(simp only[go_sem];rfl)|rfl) ?_|refine st_op ?_|refine st_det rfl (by simp (disch:=omega) only[go_sem,wr_i64];rfl) ?_|refine st_loc rfl (by simp (disch:=omega) only[go_sem,wr_i64];rfl) ?_|refine st_heap rfl (by simp (disch:=omega) only[go_sem,wr_i64];rfl) ?_|refine st_store (by simp (disch:=omega) only[go_sem,wr_i64];rfl) ?_|refine st_nil ?_|refine st_tN ?_|refine st_seq ?_|refine st_skip ?_|refine st_ret ?_|refine st_tE ?_|refine st_tR ?_)
  simp (disch:=omega) only[AEnd,Tryd.results4,aresK,fin,go_sem,implies_true,true_and,and_true,List.reverse_cons,List.reverse_nil]
  exact ⟨rfl,rfl⟩
 ·rintro v h' ⟨rfl,rfl⟩
  exact ⟨_,_,rfl,by show h.clk≤h.clk+1;omega,by show h.clk+1 < h.clk+1+1;omega,rfl⟩
theorem c8 (m:Int):Pure Tryd.prog 8 [.int .i64 m] (fun v=>v=(lg0 m).av):=by
 refine Pure.give Tryd.call8 fun h hall=>?_
 refine ACalls.of tab mixed Tryd.call8 Tryd.func8 rfl (fi:=⟨11,[2,3],[],none,[]⟩) rfl rfl (Nat.le_of_ble_eq_true rfl) (by decide) ?_
 unfold startA
 repeat' (first|refine st_seq_reg rfl (by first|(simp only[go_sem];rfl)|rfl) (by first|(simp only[go_sem];rfl)|rfl) ?_|refine st_reg rfl (by first|(simp only[go_sem];rfl)|rfl) (by first|(simp only[go_sem];rfl)|rfl) ?_|refine st_op ?_|refine st_det rfl (by simp (disch:=omega) only[go_sem,wr_i64];rfl) ?_|refine st_loc rfl (by simp (disch:=omega) only[go_sem,wr_i64];rfl) ?_|refine st_heap rfl (by simp (disch:=omega) only[go_sem,wr_i64];rfl) ?_|refine st_store (by simp (disch:=omega) only[go_sem,wr_i64];rfl) ?_|(refine st_callf rfl rfl (c4h _) ?_;rintro v h' ⟨bb,n,rfl,hb1,hb2,rfl⟩)|refine st_nil ?_|refine st_tN ?_|refine st_seq ?_|refine st_skip ?_|refine st_ret ?_|refine st_tE ?_|refine st_tR ?_)
 simp (disch:=omega) only[AEnd,Tryd.results8,aresK,fin,go_sem,implies_true,true_and,and_true,List.reverse_cons,List.reverse_nil]
 have hbb:h.clk≤bb.1:=by have:h.clk+1+1≤bb.1:=hb1;omega
 refine ⟨fun b' hb'=>if_neg (fun e=>by rw [e] at hb';omega),.inr ⟨bb,_,hbb,if_pos rfl,?_⟩⟩
 simp only[frz,frzs]
 rw [if_pos ⟨trivial,by rw [List.length_set];decide⟩]
 rfl
theorem c11:Pure Tryd.prog 11 [] (fun v=>v=.lst 1 (([[200,400,0],[800,0,100],[0,0,200]]:List (List Int)).map rowA)):=by
 intro h
 refine ACalls.forget (ACalls.of tab mixed Tryd.call11 Tryd.func11 rfl (fi:=⟨5,[],[1,2,3,4],none,[]⟩) rfl rfl (Nat.le_of_ble_eq_true rfl) (by decide) ?_)
 unfold startA
 repeat' (first|refine st_seq_reg rfl (by first|(simp only[go_sem];rfl)|rfl) (by first|(simp only[go_sem];rfl)|rfl) ?_|refine st_reg rfl (by first|(simp only[go_sem];rfl)|rfl) (by first|(simp only[go_sem];rfl)|rfl) ?_|refine st_op ?_|refine st_det rfl (by simp (disch:=omega) only[go_sem,wr_i64];rfl) ?_|refine st_heap rfl (by simp (disch:=omega) only[go_sem,wr_i64];rfl) ?_|refine st_nil ?_|refine st_tN ?_|refine st_seq ?_|refine st_skip ?_|refine st_ret ?_|refine st_tE ?_|refine st_tR ?_)
 simp (disch:=omega) only[AEnd,Tryd.results11,aresK,fin,go_sem,implies_true,true_and,and_true,List.reverse_cons,List.reverse_nil]
 rfl
theorem c15 (a b:Int):Pure Tryd.prog 15 [.int .i64 a,.int .i64 b] (fun v=>v=.agg [.int .i64 a,.int .i64 b]):=by
 intro h
 refine ACalls.forget (ACalls.of tab mixed Tryd.call15 Tryd.func15 rfl (fi:=⟨8,[4],[],none,[]⟩) rfl rfl (Nat.le_of_ble_eq_true rfl) (by decide) ?_)
 unfold startA
 repeat' (first|refine st_seq_reg rfl (by first|(simp only[go_sem];rfl)|rfl) (by first|(simp only[go_sem];rfl)|rfl) ?_|refine st_reg rfl (by first|(simp only[go_sem];rfl)|rfl) (by first|(simp only[go_sem];rfl)|rfl) ?_|refine st_op ?_|refine st_det rfl (by simp (disch:=omega) only[go_sem,wr_i64];rfl) ?_|refine st_loc rfl (by simp (disch:=omega) only[go_sem,wr_i64];rfl) ?_|refine st_heap rfl (by simp (disch:=omega) only[go_sem,wr_i64];rfl) ?_|refine st_store (by simp (disch:=omega) only[go_sem,wr_i64];rfl) ?_|refine st_nil ?_|refine st_tN ?_|refine st_seq ?_|refine st_skip ?_|refine st_ret ?_|refine st_tE ?_|refine st_tR ?_)
 simp (disch:=omega) only[AEnd,Tryd.results15,aresK,fin,go_sem,implies_true,true_and,and_true,List.reverse_cons,List.reverse_nil]
theorem c10 (a b:List Int) (ha:(a.length:Int) < 1000000) (hb:(b.length:Int) < 1000000):Pure Tryd.prog 10 [.lst 1 (a.map iv),.lst 1 (b.map iv)] (fun v=>v=.bool (decide (a=b))):=by
 intro h
 refine ACalls.forget (ACalls.of tab mixed Tryd.call10 Tryd.func10 rfl (fi:=⟨26,[],[],none,[(6,[0,0,3,7,0,0,48,112,255],[(0,false),(1,false),(2,false),(3,true),(4,false),(5,false),(6,false),(7,true),(8,false)])]⟩) rfl rfl (Nat.le_of_ble_eq_true rfl) (by decide) ?_)
 unfold startA
 repeat' (first|refine st_seq_reg rfl (by first|(simp only[go_sem];rfl)|rfl) (by first|(simp only[go_sem];rfl)|rfl) ?_|refine st_reg rfl (by first|(simp only[go_sem];rfl)|rfl) (by first|(simp only[go_sem];rfl)|rfl) ?_|refine st_seq_draw rfl (by first|(simp only[go_sem];rfl)|rfl) (by first|(simp only[go_sem];rfl)|rfl) ?_|refine st_draw rfl (by first|(simp only[go_sem];rfl)|rfl) (by first|(simp only[go_sem];rfl)|rfl) ?_|refine st_op ?_|refine st_det rfl (by simp (disch:=omega) only[go_sem,wr_i64];rfl) ?_|refine st_dop rfl ?_|refine st_condT rfl ?_|refine st_condF rfl ?_|(refine st_condS rfl ?_ ?_ <;> intro hg <;> (try simp only[dcT,dcF,bnT,bnF] at hg))|refine st_nil ?_|refine st_dnil ?_|refine st_tN ?_|refine st_seq ?_|refine st_block ?_|refine st_skip ?_|refine st_exit ?_|refine st_ret ?_|refine st_tE ?_|refine st_tR ?_|refine st_bN ?_|refine st_bR ?_|refine st_bH ?_|refine st_bM rfl ?_)
 ·simp (disch:=omega) only[AEnd,Tryd.results10,aresK,fin,go_sem,implies_true,true_and,and_true,List.reverse_cons,List.reverse_nil]
  have:¬ a=b:=fun e=>hg (by rw [e])
  simp [this]
 have hab:a.length=b.length:=by omega
 refine st_loopC (α:=Nat) tab mixed [] [] (by repeat (first|exact trivial|refine ⟨rfl,?_⟩)) [] [] (by repeat (first|exact trivial|refine ⟨rfl,?_⟩)) (fun i=>[(5,.int .i64 i)]) [(0,_),(1,_),(4,_)] (fun _=>[]) [] (fun i=>i≤a.length∧(a.drop i=b.drop i ↔ a=b)) (fun i=>a.length - i) (by decide) 0 ⟨by omega,by simp⟩ (by (try simp only[go_sem]);repeat' (first|exact trivial|refine And.intro ?_ ?_|rfl|(simp (disch:=omega) only[go_sem,if_yes,if_no,if_no];rfl)|(simp (disch:=omega) only[go_sem,if_yes,if_no,if_no]))) (by (try simp only[go_sem]);repeat' (first|exact trivial|refine And.intro ?_ ?_|rfl|(simp (disch:=omega) only[go_sem,if_yes,if_no,if_no];rfl)|(simp (disch:=omega) only[go_sem,if_yes,if_no,if_no]))) (by first|(simp only[go_sem];rfl)|rfl) (by intro n;simp only[go_sem];rfl) ?_
 rintro i c ⟨hi',hall⟩ hc
 simp only[go_sem]
 repeat' (first|refine st_seq_reg rfl (by first|(simp only[go_sem];rfl)|rfl) (by first|(simp only[go_sem];rfl)|rfl) ?_|refine st_reg rfl (by first|(simp only[go_sem];rfl)|rfl) (by first|(simp only[go_sem];rfl)|rfl) ?_|refine st_seq_draw rfl (by first|(simp only[go_sem];rfl)|rfl) (by first|(simp only[go_sem];rfl)|rfl) ?_|refine st_draw rfl (by first|(simp only[go_sem];rfl)|rfl) (by first|(simp only[go_sem];rfl)|rfl) ?_|refine st_op ?_|refine st_det rfl (by simp (disch:=omega) only[go_sem,wr_i64];rfl) ?_|refine st_dop rfl ?_|refine st_condT rfl ?_|refine st_condF rfl ?_|(refine st_condS rfl ?_ ?_ <;> intro hg <;> (try simp only[dcT,dcF,bnT,bnF] at hg))|refine st_nil ?_|refine st_dnil ?_|refine st_tN ?_|refine st_seq ?_|refine st_block ?_|refine st_skip ?_|refine st_exit ?_|refine st_ret ?_|refine st_tE ?_|refine st_tR ?_|refine st_bN ?_|refine st_bR ?_|refine st_bH ?_|refine st_bM rfl ?_)
 ·simp (disch:=omega) only[AEnd,Tryd.results10,aresK,fin,go_sem,implies_true,true_and,and_true,List.reverse_cons,List.reverse_nil]
  have:¬ a=b:=fun e=>hg (by rw [e])
  simp [this]
 ·have heq:a.getD i 0=b.getD i 0:=Decidable.of_not_not hg
  rw [drop_getD 0 (by omega),drop_getD 0 (by omega:i < b.length),List.cons.injEq] at hall
  refine ⟨i+1,⟨by omega,fun h=>hall.1 ⟨heq,h⟩,fun h=>(hall.2 h).2⟩,by omega,(by repeat' (first|exact trivial|refine And.intro ?_ ?_|rfl|(simp (disch:=omega) only[go_sem,if_yes,if_no,if_no];rfl)|(simp (disch:=omega) only[go_sem,if_yes,if_no,if_no]))),(by repeat' (first|exact trivial|refine And.intro ?_ ?_|rfl|(simp (disch:=omega) only[go_sem,if_yes,if_no,if_no];rfl)|(simp (disch:=omega) only[go_sem,if_yes,if_no,if_no]))),rfl,(by first|exact HOld.of _ (by omega)|exact HOld.put _ _ _ (by omega))⟩
 ·simp (disch:=omega) only[AEnd,Tryd.results10,aresK,fin,go_sem,implies_true,true_and,and_true,List.reverse_cons,List.reverse_nil]
  rw [List.drop_eq_nil_of_le (by omega),List.drop_eq_nil_of_le (by omega)] at hall
  have:a=b:=hall.1 rfl
  simp [this]
def lel (l:List (List Int)) (i:Nat):List Int:=l.getD i []
@[go_sem] theorem rowA_getD {l:List (List Int)} {i:Nat} (h:i < l.length):(l.map rowA).getD i []=[.lst 1 ((lel l i).map iv)]:=by
 rw [List.getD_eq_getElem?_getD,List.getElem?_map]
 simp [lel,rowA,List.getD_eq_getElem?_getD,h]
theorem lel_mem {l:List (List Int)} {i:Nat} (h:i < l.length):lel l i ∈ l:=by
 unfold lel;rw [List.getD_eq_getElem?_getD,List.getElem?_eq_getElem h];exact List.getElem_mem _
theorem c19 (a b:List (List Int)) (ha:(a.length:Int) < 1000000) (hb:(b.length:Int) < 1000000) (ha2:∀ x ∈ a,x.length < 1000000) (hb2:∀ x ∈ b,x.length < 1000000):Pure Tryd.prog 19 [.lst 1 (a.map rowA),.lst 1 (b.map rowA)] (fun v=>v=.bool (decide (a=b))):=by
 intro h
 refine ACalls.forget (ACalls.of tab mixed Tryd.call19 Tryd.func19 rfl (fi:=⟨27,[],[],none,[(6,[0,0,3,7,0,0,48,112,255,511],[(0,false),(1,false),(2,false),(3,true),(4,false),(5,false),(6,false),(7,true),(8,false),(9,false)])]⟩) rfl rfl (Nat.le_of_ble_eq_true rfl) (by decide) ?_)
 unfold startA
 repeat' (first|refine st_seq_reg rfl (by first|(simp only[go_sem,Lm];rfl)|rfl) (by first|(simp only[go_sem,Lm];rfl)|rfl) ?_|refine st_reg rfl (by first|(simp only[go_sem,Lm];rfl)|rfl) (by first|(simp only[go_sem,Lm];rfl)|rfl) ?_|refine st_seq_draw rfl (by first|(simp only[go_sem,Lm];rfl)|rfl) (by first|(simp only[go_sem,Lm];rfl)|rfl) ?_|refine st_draw rfl (by first|(simp only[go_sem,Lm];rfl)|rfl) (by first|(simp only[go_sem,Lm];rfl)|rfl) ?_|refine st_op ?_|refine st_det rfl (by simp (disch:=omega) only[go_sem,wr_i64,Lm];rfl) ?_|refine st_dop rfl ?_|refine st_condT rfl ?_|refine st_condF rfl ?_|(refine st_condS rfl ?_ ?_ <;> intro hg <;> (try simp only[dcT,dcF,bnT,bnF] at hg))|refine st_nil ?_|refine st_dnil ?_|refine st_tN ?_|refine st_seq ?_|refine st_block ?_|refine st_skip ?_|refine st_exit ?_|refine st_ret ?_|refine st_tE ?_|refine st_tR ?_|refine st_bN ?_|refine st_bR ?_|refine st_bH ?_|refine st_bM rfl ?_)
 ·simp (disch:=omega) only[AEnd,Tryd.results19,aresK,fin,go_sem,implies_true,true_and,and_true,List.reverse_cons,List.reverse_nil]
  have:¬ a=b:=fun e=>hg (by rw [e])
  simp [this]
 have hab:a.length=b.length:=by omega
 refine st_loopC (α:=Nat) tab mixed [] [] (by repeat (first|exact trivial|refine ⟨rfl,?_⟩)) [] [] (by repeat (first|exact trivial|refine ⟨rfl,?_⟩)) (fun i=>[(5,.int .i64 i)]) [(0,_),(1,_),(4,_)] (fun _=>[]) [] (fun i=>i≤a.length∧(a.drop i=b.drop i ↔ a=b)) (fun i=>a.length - i) (by decide) 0 ⟨by omega,by simp⟩ (by (try simp only[go_sem]);repeat' (first|exact trivial|refine And.intro ?_ ?_|rfl|(simp (disch:=omega) only[go_sem,if_yes,if_no,if_no];rfl)|(simp (disch:=omega) only[go_sem,if_yes,if_no,if_no]))) (by (try simp only[go_sem]);repeat' (first|exact trivial|refine And.intro ?_ ?_|rfl|(simp (disch:=omega) only[go_sem,if_yes,if_no,if_no];rfl)|(simp (disch:=omega) only[go_sem,if_yes,if_no,if_no]))) (by first|(simp only[go_sem];rfl)|rfl) (by intro n;simp only[go_sem];rfl) ?_
 rintro i c ⟨hi',hall⟩ hc
 simp only[go_sem]
 have k30:=fun hi:i < a.length=>c10 (lel a i) (lel b i) (by have:=ha2 _ (lel_mem hi);omega) (by have:=hb2 _ (lel_mem (l:=b) (i:=i) (by omega));omega)
 repeat' (first|refine st_seq_reg rfl (by first|(simp only[go_sem,Lm];rfl)|rfl) (by first|(simp only[go_sem,Lm];rfl)|rfl) ?_|refine st_reg rfl (by first|(simp only[go_sem,Lm];rfl)|rfl) (by first|(simp only[go_sem,Lm];rfl)|rfl) ?_|refine st_seq_draw rfl (by first|(simp only[go_sem,Lm];rfl)|rfl) (by first|(simp only[go_sem,Lm];rfl)|rfl) ?_|refine st_draw rfl (by first|(simp only[go_sem,Lm];rfl)|rfl) (by first|(simp only[go_sem,Lm];rfl)|rfl) ?_|refine st_op ?_|refine st_det rfl (by simp (disch:=omega) only[go_sem,wr_i64,Lm];rfl) ?_|refine st_dop rfl ?_|(refine st_pureE (by first|(simp (disch:=omega) only[go_sem,Lm];rfl)|rfl) rfl (k30 (by omega)) (by first|(simp only[go_sem,Lm];rfl)|rfl) (by intro n;first|(simp (disch:=omega) only[go_sem];rfl)|rfl) ?_;intro n hn)|refine st_condT rfl ?_|refine st_condF rfl ?_|(refine st_condS rfl ?_ ?_ <;> intro hg <;> (try simp only[dcT,dcF,bnT,bnF] at hg))|refine st_nil ?_|refine st_dnil ?_|refine st_tN ?_|refine st_seq ?_|refine st_block ?_|refine st_skip ?_|refine st_exit ?_|refine st_ret ?_|refine st_tE ?_|refine st_tR ?_|refine st_bN ?_|refine st_bR ?_|refine st_bH ?_|refine st_bM rfl ?_)
 ·simp (disch:=omega) only[AEnd,Tryd.results19,aresK,fin,go_sem,implies_true,true_and,and_true,List.reverse_cons,List.reverse_nil]
  have hne:¬ lel a i=lel b i:=hg
  have:¬ a=b:=fun e=>hne (by rw [e])
  simp [this]
 ·have heq:lel a i=lel b i:=hg
  rw [drop_getD [] (by omega),drop_getD [] (by omega:i < b.length),List.cons.injEq] at hall
  refine ⟨i+1,⟨by omega,fun h=>hall.1 ⟨heq,h⟩,fun h=>(hall.2 h).2⟩,by omega,(by repeat' (first|exact trivial|refine And.intro ?_ ?_|rfl|(simp (disch:=omega) only[go_sem,if_yes,if_no,if_no];rfl)|(simp (disch:=omega) only[go_sem,if_yes,if_no,if_no]))),(by repeat' (first|exact trivial|refine And.intro ?_ ?_|rfl|(simp (disch:=omega) only[go_sem,if_yes,if_no,if_no];rfl)|(simp (disch:=omega) only[go_sem,if_yes,if_no,if_no]))),rfl,(by first|exact HOld.of _ (by omega)|exact HOld.put _ _ _ (by omega))⟩
 ·simp (disch:=omega) only[AEnd,Tryd.results19,aresK,fin,go_sem,implies_true,true_and,and_true,List.reverse_cons,List.reverse_nil]
  rw [List.drop_eq_nil_of_le (by omega),List.drop_eq_nil_of_le (by omega)] at hall
  have:a=b:=hall.1 rfl
  simp [this]
theorem v0:chkE (lg0 900)=0∧prf (lg0 900)=none∧traceL (lg0 900)=[[200,400,0],[800,0,100],[0,0,200]]:=by decide +kernel
theorem v1:chkE (lg0 1101)=0∧prf (lg0 1101)=some 6∧bitsL (lg0 1101) 6 3=[1,2]:=by decide +kernel
theorem v2:loN (lg0 900) 1 8=400∧sumF (spF (lg0 900) 1) 3=600:=by decide +kernel
theorem c7a:Pure Tryd.prog 7 [(lg0 900).av] (fun v=>v=.tup [.lst 1 (([[200,400,0],[800,0,100],[0,0,200]]:List (List Int)).map rowA),.int .i64 0]):=by
 have e:trcR (lg0 900)=fun v=>v=.tup [.lst 1 (([[200,400,0],[800,0,100],[0,0,200]]:List (List Int)).map rowA),.int .i64 0]:=by
  funext v;unfold trcR;rw [if_neg (by rw [v0.1];decide),if_neg (by rw [v0.2.1];simp),v0.2.2]
 have h:=c7 (lg0 900)
 rw [e] at h;exact h
theorem c9a:Pure Tryd.prog 9 [(lg0 1101).av] (fun v=>v=.tup [.lst 1 (([1,2]:List Int).map iv),.int .i64 0]):=by
 have e:shoR (lg0 1101)=fun v=>v=.tup [.lst 1 (([1,2]:List Int).map iv),.int .i64 0]:=by
  funext v;unfold shoR;rw [if_neg (by rw [v1.1];decide),v1.2.1];show (v=.tup [.lst 1 ((bitsL (lg0 1101) 6 3).map iv),.int .i64 0])=_;rw [v1.2.2]
 have h:=c9 (lg0 1101)
 rw [e] at h;exact h
theorem c14a:Pure Tryd.prog 14 [(lg0 900).av,.int .i64 1] (fun v=>v=.tup [.agg [.int .i64 400,.int .i64 500],.int .i64 0]):=by
 have e:spnR (lg0 900) 1=fun v=>v=.tup [.agg [.int .i64 400,.int .i64 500],.int .i64 0]:=by
  funext v;unfold spnR;rw [if_neg (by rw [v0.1];decide),if_neg (by decide),if_neg (by rw [v0.2.1];simp)]
  show (v=.tup [.agg [.int .i64 (loN (lg0 900) 1 8),.int .i64 (min 500 (sumF (spF (lg0 900) 1) 3))],.int .i64 0])=_
  rw [v2.1,v2.2];rfl
 have h:=c14 (lg0 900) 1 (by decide)
 rw [e] at h;exact h
theorem c17a:Pure Tryd.prog 17 [.lst 1 (([3,0,2]:List Int).map iv),.lst 1 (([7,1,6]:List Int).map iv)] (fun v=>v=.tup [.int .i64 4,.int .i64 2,.int .i64 0]):=by
 have h:=c17 [3,0,2] [7,1,6] (by decide) (by decide)
 intro g
 refine (h g).mono ?_
 rintro v h' ⟨q2,q1⟩
 refine ⟨q2,?_⟩
 have e:drwE [3,0,2] [7,1,6]=0:=by decide
 have e2:(sumL [7,1,6]).tmod (sumL [3,0,2])=4:=by decide
 unfold drwR at q1
 rw [e,if_neg (by decide),e2] at q1
 obtain ⟨k,k1,k2,k3,rfl⟩:=q1
 have k1':k < 3:=k1
 have:k=2:=by
  rcases (by omega:k=0 ∨ k=1 ∨ k=2) with rfl|rfl|rfl
  ·exact absurd k3 (by decide)
  ·exact absurd k3 (by decide)
  ·rfl
 subst this
 rfl
theorem c5:Pure Tryd.prog 5 [] (fun v=>v=.bool true):=by
 intro h
 refine ACalls.forget (ACalls.of tab mixed Tryd.call5 Tryd.func5 rfl (fi:=⟨69,[5],[26,27,61],none,[(5,[0,1,3,7,15,31,63,127,255,511,1023,2047,4095,8191,16383,32767,65535,131071,262143,524287,1048575,2097151,4194303,8388607,8388607,33554431,67108863,134217727,268435455,268435455,1073741823,2147483647,4294967295,8589934591,8589934591,34359738367,68719476735,137438953471],[(0,false),(1,false),(2,false),(3,false),(4,false),(5,false),(6,false),(7,false),(8,false),(9,false),(10,false),(11,false),(12,false),(13,false),(14,false),(15,false),(16,false),(17,false),(18,false),(19,false),(20,false),(21,false),(22,false),(23,true),(24,false),(25,false),(26,false),(27,false),(28,false),(29,false),(30,false),(31,false),(32,false),(33,false),(34,false),(35,false),(36,false),(37,false)])]⟩) rfl rfl (Nat.le_of_ble_eq_true rfl) (by decide) ?_)
 unfold startA
 repeat' (first|refine st_seq_reg rfl (by first|(simp only[go_sem];rfl)|rfl) (by first|(simp only[go_sem];rfl)|rfl) ?_|refine st_reg rfl (by first|(simp only[go_sem];rfl)|rfl) (by first|(simp only[go_sem];rfl)|rfl) ?_|refine st_seq_draw rfl (by first|(simp only[go_sem];rfl)|rfl) (by first|(simp only[go_sem];rfl)|rfl) ?_|refine st_draw rfl (by first|(simp only[go_sem];rfl)|rfl) (by first|(simp only[go_sem];rfl)|rfl) ?_|refine st_op ?_|refine st_det rfl (by simp (disch:=omega) only[go_sem,wr_i64];rfl) ?_|refine st_dop rfl ?_|refine st_loc rfl (by simp (disch:=omega) only[go_sem,wr_i64];rfl) ?_|refine st_heap rfl (by simp (disch:=omega) only[go_sem,wr_i64];rfl) ?_|refine st_store (by simp (disch:=omega) only[go_sem,wr_i64];rfl) ?_|(refine st_pureE (by first|(simp (disch:=omega) only[go_sem];rfl)|rfl) rfl (c4) (by first|(simp only[go_sem];rfl)|rfl) (by intro n;first|(simp (disch:=omega) only[go_sem];rfl)|rfl) ?_;intro n hn)|(refine st_pureE (by first|(simp (disch:=omega) only[go_sem];rfl)|rfl) rfl (c7a) (by first|(simp only[go_sem];rfl)|rfl) (by intro n;first|(simp (disch:=omega) only[go_sem];rfl)|rfl) ?_;intro n hn)|(refine st_pureE (by first|(simp (disch:=omega) only[go_sem];rfl)|rfl) rfl (c8 _) (by first|(simp only[go_sem];rfl)|rfl) (by intro n;first|(simp (disch:=omega) only[go_sem];rfl)|rfl) ?_;intro n hn)|(refine st_pureE (by first|(simp (disch:=omega) only[go_sem];rfl)|rfl) rfl (c9a) (by first|(simp only[go_sem];rfl)|rfl) (by intro n;first|(simp (disch:=omega) only[go_sem];rfl)|rfl) ?_;intro n hn)|(refine st_pureE (by first|(simp (disch:=omega) only[go_sem];rfl)|rfl) rfl (c14a) (by first|(simp only[go_sem];rfl)|rfl) (by intro n;first|(simp (disch:=omega) only[go_sem];rfl)|rfl) ?_;intro n hn)|(refine st_pureE (by first|(simp (disch:=omega) only[go_sem];rfl)|rfl) rfl (c17a) (by first|(simp only[go_sem];rfl)|rfl) (by intro n;first|(simp (disch:=omega) only[go_sem];rfl)|rfl) ?_;intro n hn)|(refine st_pureE (by first|(simp (disch:=omega) only[go_sem];rfl)|rfl) rfl (c15 _ _) (by first|(simp only[go_sem];rfl)|rfl) (by intro n;first|(simp (disch:=omega) only[go_sem];rfl)|rfl) ?_;intro n hn)|(refine st_pureE (by first|(simp (disch:=omega) only[go_sem];rfl)|rfl) rfl (c10 [1,2] [1,2] (by decide) (by decide)) (by first|(simp only[go_sem];rfl)|rfl) (by intro n;first|(simp (disch:=omega) only[go_sem];rfl)|rfl) ?_;intro n hn)|(refine st_pureE (by first|(simp (disch:=omega) only[go_sem];rfl)|rfl) rfl (c11) (by first|(simp only[go_sem];rfl)|rfl) (by intro n;first|(simp (disch:=omega) only[go_sem];rfl)|rfl) ?_;intro n hn)|(refine st_pureE (by first|(simp (disch:=omega) only[go_sem];rfl)|rfl) rfl (c19 [[200,400,0],[800,0,100],[0,0,200]] [[200,400,0],[800,0,100],[0,0,200]] (by decide) (by decide) (by decide) (by decide)) (by first|(simp only[go_sem];rfl)|rfl) (by intro n;first|(simp (disch:=omega) only[go_sem];rfl)|rfl) ?_;intro n hn)|refine st_gT rfl rfl rfl ?_|refine st_gF rfl rfl rfl ?_|refine st_dgT rfl rfl rfl rfl ?_|refine st_dgF rfl rfl rfl ?_|(refine st_gS rfl rfl ?_ ?_ <;> intro hg <;> (try simp only[dcT,dcF,bnT,bnF] at hg))|(refine st_dgS rfl rfl ?_ ?_ <;> intro hg <;> (try simp only[dcT,dcF,bnT,bnF] at hg))|refine st_nil ?_|refine st_dnil ?_|refine st_tN ?_|refine st_seq ?_|refine st_skip ?_|refine st_ret ?_|refine st_tE ?_|refine st_tR ?_)
 simp (disch:=omega) only[AEnd,Tryd.results5,aresK,fin,go_sem,implies_true,true_and,and_true,List.reverse_cons,List.reverse_nil]
end Go.Proofs.YtefogfgddofdmaaDoor

namespace Go.Proofs.YtefogfgddofdmaaDoor
open Go.Av
attribute [local irreducible] thenA blockA awp awpOps awpD awp1
attribute [local go_sem_proc] Nat.reduceAdd Nat.reduceMul Nat.reduceEqDiff Nat.reduceBEq Nat.reduceLeDiff
attribute [local go_sem_proc ↓] reduceIte
attribute [local go_sem] if_yes if_no
set_option maxHeartbeats 8000000
set_option maxRecDepth 20000
end Go.Proofs.YtefogfgddofdmaaDoor
