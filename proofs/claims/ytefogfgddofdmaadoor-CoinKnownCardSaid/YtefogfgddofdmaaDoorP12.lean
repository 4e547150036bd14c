/- Contracts of functions that the claim reaches: what each call gives, told in our own logic. Conditions: those of each theorem. -/
import Derived.Test.YtefogfgddofdmaaDoorG12
import Derived.Test.YtefogfgddofdmaaDoorBaseD
import Derived.Test.YtefogfgddofdmaaDoorG8
import Derived.Test.YtefogfgddofdmaaDoorP2
import Derived.Test.YtefogfgddofdmaaDoorG9
open Nat (reduceAdd reduceMul reduceEqDiff reduceLeDiff)
set_option linter.all false
set_option linter.unusedSimpArgs false
set_option linter.unusedVariables false
namespace Go.Proofs.YtefogfgddofdmaaDoor
open Go.Av
attribute [local irreducible] thenA blockA awp awpOps awpD awp1
attribute [local go_sem_proc] reduceAdd reduceMul reduceEqDiff Nat.reduceBEq reduceLeDiff
attribute [local go_sem_proc ↓] reduceIte
attribute [local go_sem] if_yes if_no
set_option maxHeartbeats 8000000
set_option maxRecDepth 20000
structure UsGood (us:List Int) (j:Nat):Prop where
 len:us.length≤j
 bd:∀ i,i < us.length→0≤elt us i∧elt us i < j
 up:∀ i,i+1 < us.length→elt us i < elt us (i+1)
theorem elt_app {l:List Int} {r:Int} {i:Nat} (h:i < l.length):elt (l ++ [r]) i=elt l i:=by
 unfold elt;simp only[List.getD_eq_getElem?_getD];rw [List.getElem?_append_left h]
theorem elt_last {l:List Int} {r:Int}:elt (l ++ [r]) l.length=r:=by
 unfold elt;simp only[List.getD_eq_getElem?_getD];simp
theorem UsGood.mono {us:List Int} {j k:Nat} (h:UsGood us j) (hk:j≤k):UsGood us k:=⟨by have:=h.len;omega,fun i hi=>by have:=h.bd i hi;omega,h.up⟩
theorem UsGood.add {us:List Int} {j:Nat} (h:UsGood us j):UsGood (us ++ [((j:Nat):Int)]) (j+1):=by
 have hl:=h.len
 refine ⟨by simp;omega,fun i hi=>?_,fun i hi=>?_⟩
 ·rw [List.length_append] at hi
  by_cases c:i < us.length
  ·rw [elt_app c];have:=h.bd i c;omega
  ·obtain rfl:i=us.length:=by simp at hi;omega
   rw [elt_last];omega
 ·rw [List.length_append] at hi
  have hi':i < us.length:=by simp at hi;omega
  rw [elt_app hi']
  by_cases c:i+1 < us.length
  ·rw [elt_app c];exact h.up i c
  ·have:i+1=us.length:=by omega
   rw [this,elt_last];exact (h.bd i hi').2
structure Gd (h:AH) (b:Nat × Nat) (x:Int) (g:AH):Prop where
 u:isU64 x
 d:g.at_ b=dr x
 old:∀ b':Nat × Nat,b'.1 < h.clk→b' ≠ b→g.at_ b'=h.at_ b'
 lp:g.lp=h.lp
 cl:h.clk≤g.clk
def Sl (h g:AH) (v:AV) (z:Nat) (l:List (List AV)):Prop:=(v=.nils∧l=[]) ∨ ∃ b1:Nat × Nat,v=.slc b1 z 0 l.length∧g.at_ b1=some ⟨z,l⟩∧h.clk≤b1.1∧b1.1 < g.clk
theorem Sl.to {h g g':AH} {v:AV} {z:Nat} {l:List (List AV)} (hS:Sl h g v z l) (hk:∀ b1 m,v=.slc b1 z 0 m→h.clk≤b1.1→b1.1 < g.clk→g'.at_ b1=g.at_ b1) (hc:g.clk≤g'.clk):Sl h g' v z l:=by
 rcases hS with h'|⟨b1,h1,h2,h3,h4⟩
 ·exact .inl h'
 ·exact .inr ⟨b1,h1,by rw [hk b1 _ h1 h3 h4];exact h2,h3,by omega⟩
theorem Gd.to {h g g':AH} {b:Nat × Nat} {x x':Int} (hG:Gd h b x g) (u:isU64 x') (d:g'.at_ b=dr x') (ho:∀ b':Nat × Nat,b'.1 < h.clk→b' ≠ b→g'.at_ b'=g.at_ b') (hl:g'.lp=g.lp) (hc:g.clk≤g'.clk):Gd h b x' g' :=
 ⟨u,d,fun b' h1 h2=>by rw [ho b' h1 h2];exact hG.old b' h1 h2,by rw [hl];exact hG.lp,by have:=hG.cl;omega⟩
end Go.Proofs.YtefogfgddofdmaaDoor

namespace Go.Proofs.YtefogfgddofdmaaDoor
open Go.Av
attribute [local irreducible] thenA blockA awp awpOps awpD awp1
attribute [local go_sem_proc] reduceAdd reduceMul reduceEqDiff Nat.reduceBEq reduceLeDiff
attribute [local go_sem_proc ↓] reduceIte
attribute [local go_sem] if_yes if_no
set_option maxHeartbeats 8000000
set_option maxRecDepth 20000
def comF (l:Lg) (d:Int) (i:Nat):Int:=if (fd l.fs i).day≤d then (fd l.fs i).amt else 0
def paiF (l:Lg) (d:Int) (i:Nat):Int:=if (bl l.bs i).day≤d then (bl l.bs i).amt else 0
def balD (l:Lg) (d:Int):Int:=sumF (comF l d) l.fs.length - sumF (paiF l d) l.bs.length
def balN (l:Lg) (d:Int):Int:=if chkE l ≠ 0 then 0 else if ¬ (0≤d∧d≤3650) then 0 else balD l d
def balE (l:Lg) (d:Int):Int:=if chkE l ≠ 0 then chkE l else if ¬ (0≤d∧d≤3650) then 2 else 0
theorem c34 (l:Lg) (d:Int) (i:Nat):Pure Tryd.prog 34 ([.int .i64 (i:Nat),.agg (fd l.fs i).row] ++ [.iptr [.int .i64 d] 0]) (fun v=>v=.int .i64 (comF l d i)):=by
 intro h
 refine ACalls.forget (ACalls.of tab mixed Tryd.call34 Tryd.func34 rfl (fi:=⟨12,[],[4],none,[]⟩) rfl rfl (Nat.le_of_ble_eq_true rfl) (by decide) ?_)
 unfold startA
 simp only[go_sem]
 repeat' (first|refine st_seq_reg rfl (by first|(simp only[go_sem];rfl)|rfl) (by first|(simp only[go_sem];rfl)|rfl) ?_|refine st_reg rfl (by first|(simp only[go_sem];rfl)|rfl) (by first|(simp only[go_sem];rfl)|rfl) ?_|refine st_op ?_|refine st_det rfl (by simp (disch:=omega) only[go_sem,wr_i64];rfl) ?_|refine st_loc rfl (by simp (disch:=omega) only[go_sem,wr_i64];rfl) ?_|refine st_heap rfl (by simp (disch:=omega) only[go_sem,wr_i64];rfl) ?_|refine st_condT rfl ?_|refine st_condF rfl ?_|(refine st_condS rfl ?_ ?_ <;> intro hg <;> (try simp only[dcT,dcF,bnT,bnF] at hg))|refine st_nil ?_|refine st_tN ?_|refine st_seq ?_|refine st_skip ?_|refine st_ret ?_|refine st_tE ?_|refine st_tR ?_)
 ·simp (disch:=omega) only[AEnd,Tryd.results34,aresK,fin,go_sem,implies_true,true_and,and_true,List.reverse_cons,List.reverse_nil]
  unfold comF;rw [if_pos hg]
 ·simp (disch:=omega) only[AEnd,Tryd.results34,aresK,fin,go_sem,implies_true,true_and,and_true,List.reverse_cons,List.reverse_nil]
  unfold comF;rw [if_neg hg]
theorem c35 (l:Lg) (d:Int) (i:Nat):Pure Tryd.prog 35 ([.int .i64 (i:Nat),.agg (bl l.bs i).row] ++ [.iptr [.int .i64 d] 0]) (fun v=>v=.int .i64 (paiF l d i)):=by
 intro h
 refine ACalls.forget (ACalls.of tab mixed Tryd.call35 Tryd.func35 rfl (fi:=⟨12,[],[4],none,[]⟩) rfl rfl (Nat.le_of_ble_eq_true rfl) (by decide) ?_)
 unfold startA
 simp only[go_sem]
 repeat' (first|refine st_seq_reg rfl (by first|(simp only[go_sem];rfl)|rfl) (by first|(simp only[go_sem];rfl)|rfl) ?_|refine st_reg rfl (by first|(simp only[go_sem];rfl)|rfl) (by first|(simp only[go_sem];rfl)|rfl) ?_|refine st_op ?_|refine st_det rfl (by simp (disch:=omega) only[go_sem,wr_i64];rfl) ?_|refine st_loc rfl (by simp (disch:=omega) only[go_sem,wr_i64];rfl) ?_|refine st_heap rfl (by simp (disch:=omega) only[go_sem,wr_i64];rfl) ?_|refine st_condT rfl ?_|refine st_condF rfl ?_|(refine st_condS rfl ?_ ?_ <;> intro hg <;> (try simp only[dcT,dcF,bnT,bnF] at hg))|refine st_nil ?_|refine st_tN ?_|refine st_seq ?_|refine st_skip ?_|refine st_ret ?_|refine st_tE ?_|refine st_tR ?_)
 ·simp (disch:=omega) only[AEnd,Tryd.results35,aresK,fin,go_sem,implies_true,true_and,and_true,List.reverse_cons,List.reverse_nil]
  unfold paiF;rw [if_pos hg]
 ·simp (disch:=omega) only[AEnd,Tryd.results35,aresK,fin,go_sem,implies_true,true_and,and_true,List.reverse_cons,List.reverse_nil]
  unfold paiF;rw [if_neg hg]
theorem comF_bd {l:Lg} (hl:LgOk l) (d:Int) (i:Nat) (hi:i < l.fs.length):0≤comF l d i∧comF l d i≤1000000000:=by
 have:=(hl.f _ (fd_mem hi)).amt
 unfold comF;split <;> omega
theorem paiF_bd {l:Lg} (hl:LgOk l) (d:Int) (i:Nat) (hi:i < l.bs.length):0≤paiF l d i∧paiF l d i≤1000000000:=by
 have:=(hl.b _ (bl_mem hi)).amt
 unfold paiF;split <;> omega
theorem c16 (l:Lg) (d:Int):Pure Tryd.prog 16 [l.av,.int .i64 d] (fun v=>v=.tup [.int .i64 (balN l d),.int .i64 (balE l d)]):=by
 have k27:=c6 l
 have k65:=c21a 0 3650 d
 by_cases h0:chkE l=0
 case neg =>
  intro h
  refine ACalls.forget (ACalls.of tab mixed Tryd.call16 Tryd.func16 rfl (fi:=⟨29,[],[2,3,15],none,[]⟩) rfl rfl (Nat.le_of_ble_eq_true rfl) (by decide) ?_)
  unfold startA
  simp only[go_sem]
  repeat' (first|refine st_seq_reg rfl (by first|(simp only[go_sem];rfl)|rfl) (by first|(simp only[go_sem];rfl)|rfl) ?_|refine st_reg rfl (by first|(simp only[go_sem];rfl)|rfl) (by first|(simp only[go_sem];rfl)|rfl) ?_|refine st_op ?_|refine st_det rfl (by simp (disch:=omega) only[go_sem,wr_i64];rfl) ?_|refine st_loc rfl (by simp (disch:=omega) only[go_sem,wr_i64];rfl) ?_|refine st_heap rfl (by simp (disch:=omega) only[go_sem,wr_i64];rfl) ?_|(refine st_pureE (by first|(simp (disch:=omega) only[go_sem];rfl)|rfl) rfl (k27) (by first|(simp only[go_sem];rfl)|rfl) (by intro n;first|(simp (disch:=omega) only[go_sem];rfl)|rfl) ?_;intro n hn)|refine st_condT rfl ?_|refine st_condF rfl ?_|(refine st_condS rfl ?_ ?_ <;> intro hg <;> (try simp only[dcT,dcF,bnT,bnF] at hg))|refine st_nil ?_|refine st_tN ?_|refine st_seq ?_|refine st_skip ?_|refine st_ret ?_|refine st_tE ?_|refine st_tR ?_)
  ·simp (disch:=omega) only[AEnd,Tryd.results16,aresK,fin,go_sem,implies_true,true_and,and_true,List.reverse_cons,List.reverse_nil]
   unfold balN balE;rw [if_pos h0,if_pos h0]
  ·exact absurd h0 hg
 have hl:=ledgerOk h0
 have hfn:=hl.fn
 have hbn:=hl.bn
 rw [h0] at k27
 have kf:=c33 l.fs 34 [.iptr [.int .i64 d] 0] (comF l d) rfl (by omega) (fun i hi=>by have:=comF_bd hl d i hi;omega) (fun i _=>c34 l d i)
 have kb:=c31 l.bs 35 [.iptr [.int .i64 d] 0] (paiF l d) rfl (by omega) (fun i hi=>by have:=paiF_bd hl d i hi;omega) (fun i _=>c35 l d i)
 have s1:=sumF_le (F:=comF l d) (n:=l.fs.length) (by omega) (fun i hi=>by have:=comF_bd hl d i hi;omega) (Nat.le_refl _)
 have s2:=sumF_le (F:=paiF l d) (n:=l.bs.length) (by omega) (fun i hi=>by have:=paiF_bd hl d i hi;omega) (Nat.le_refl _)
 intro h
 refine ACalls.forget (ACalls.of tab mixed Tryd.call16 Tryd.func16 rfl (fi:=⟨29,[],[2,3,15],none,[]⟩) rfl rfl (Nat.le_of_ble_eq_true rfl) (by decide) ?_)
 unfold startA
 simp only[go_sem]
 repeat' (first|refine st_seq_reg rfl (by first|(simp only[go_sem];rfl)|rfl) (by first|(simp only[go_sem];rfl)|rfl) ?_|refine st_reg rfl (by first|(simp only[go_sem];rfl)|rfl) (by first|(simp only[go_sem];rfl)|rfl) ?_|refine st_op ?_|refine st_det rfl (by simp (disch:=omega) only[go_sem,wr_i64];rfl) ?_|refine st_loc rfl (by simp (disch:=omega) only[go_sem,wr_i64];rfl) ?_|refine st_heap rfl (by simp (disch:=omega) only[go_sem,wr_i64];rfl) ?_|(refine st_pureE (by first|(simp (disch:=omega) only[go_sem];rfl)|rfl) rfl (k27) (by first|(simp only[go_sem];rfl)|rfl) (by intro n;first|(simp (disch:=omega) only[go_sem];rfl)|rfl) ?_;intro n hn)|(refine st_pureE (by first|(simp (disch:=omega) only[go_sem];rfl)|rfl) rfl (k65) (by first|(simp only[go_sem];rfl)|rfl) (by intro n;first|(simp (disch:=omega) only[go_sem];rfl)|rfl) ?_;intro n hn)|(refine st_pureE (by first|(simp (disch:=omega) only[go_sem];rfl)|rfl) rfl (kf) (by first|(simp only[go_sem];rfl)|rfl) (by intro n;first|(simp (disch:=omega) only[go_sem];rfl)|rfl) ?_;intro n hn)|(refine st_pureE (by first|(simp (disch:=omega) only[go_sem];rfl)|rfl) rfl (kb) (by first|(simp only[go_sem];rfl)|rfl) (by intro n;first|(simp (disch:=omega) only[go_sem];rfl)|rfl) ?_;intro n hn)|refine st_condT rfl ?_|refine st_condF rfl ?_|(refine st_condS rfl ?_ ?_ <;> intro hg <;> (try simp only[dcT,dcF,bnT,bnF] at hg))|refine st_nil ?_|refine st_tN ?_|refine st_seq ?_|refine st_skip ?_|refine st_ret ?_|refine st_tE ?_|refine st_tR ?_)
 ·simp (disch:=omega) only[AEnd,Tryd.results16,aresK,fin,go_sem,implies_true,true_and,and_true,List.reverse_cons,List.reverse_nil]
  unfold balN balE;rw [if_neg (by omega),if_pos (by omega),if_neg (by omega),if_pos (by omega)]
 ·simp (disch:=omega) only[AEnd,Tryd.results16,aresK,fin,go_sem,implies_true,true_and,and_true,List.reverse_cons,List.reverse_nil]
  unfold balN balE;rw [if_neg (by omega),if_neg (by omega),if_neg (by omega),if_neg (by omega)]
  rfl
end Go.Proofs.YtefogfgddofdmaaDoor

namespace Go.Proofs.YtefogfgddofdmaaDoor
open Go.Av
set_option maxHeartbeats 8000000
set_option maxRecDepth 20000
theorem elt_set {l:List Int} {k:Nat} {v:Int} (hk:k < l.length) (j:Nat):elt (l.set k v) j=if j=k then v else elt l j:=by
 unfold elt
 simp only[List.getD_eq_getElem?_getD,List.getElem?_set]
 by_cases e:k=j
 ·subst e;simp [hk]
 ·have:¬ j=k:=fun h=>e h.symm
  simp [e,this]
structure TsRow (l:Lg) (i k:Nat) (rs:List Int) (t:TS):Prop where
 rs:∀ f,elt t.rs f=elt rs f - elt t.row f
 zero:∀ f,k≤f→elt t.row f=0
 nn:∀ f,0≤elt t.row f
 can:∀ f,0 < elt t.row f→f < k∧payB (fd l.fs f) (bl l.bs i)=true
 need:t.need=(bl l.bs i).amt - sumF (elt t.row) k
theorem TsRow.next {l:Lg} (hl:LgOk l) {i k:Nat} {rs:List Int} {t:TS} (hi:i < l.bs.length) (hk:k < l.fs.length) (ht:TsOk l i k t) (h:TsRow l i k rs t):TsRow l i (k+1) rs (t.step l i k):=by
 have hfn:=hl.fn
 have hp:=pow_bd l.bs.length (by have:=hl.bn;omega)
 unfold TS.step
 cases hc:payB (fd l.fs k) (bl l.bs i)
 ·simp only[Bool.false_eq_true,if_false]
  refine ⟨h.rs,fun f hf=>h.zero f (by omega),h.nn,fun f hf=>⟨by have:=(h.can f hf).1;omega,(h.can f hf).2⟩,?_⟩
  show t.need=_ - (sumF (elt t.row) k+elt t.row k)
  rw [h.zero k (Nat.le_refl _),h.need];omega
 ·simp only[if_true]
  have h0:0≤t.n l i k:=(ht.n_nn hl hi hk (2 ^ l.bs.length) (Nat.le_refl _)).1
  generalize t.n l i k=n at *
  have er:=elt_set (l:=t.row) (k:=k) (v:=n) (by rw [ht.len];omega)
  have es:=elt_set (l:=t.rs) (k:=k) (v:=t.rs.getD k 0 - n) (by rw [ht.rs.1];omega)
  have ez:=h.zero k (Nat.le_refl _)
  have ek:=h.rs k
  have ed:t.rs.getD k 0=elt t.rs k:=rfl
  refine ⟨fun f=>?_,fun f hf=>?_,fun f=>?_,fun f hf=>?_,?_⟩
  ·show elt (t.rs.set k _) f=_ - elt (t.row.set k _) f
   rw [er,es]
   by_cases e:f=k
   ·subst e;rw [if_pos rfl,if_pos rfl,ed];omega
   ·rw [if_neg e,if_neg e];exact h.rs f
  ·show elt (t.row.set k _) f=0
   rw [er,if_neg (by omega)];exact h.zero f (by omega)
  ·show 0≤elt (t.row.set k _) f
   rw [er];split
   ·exact h0
   ·exact h.nn f
  ·have hf':0 < elt (t.row.set k n) f:=hf
   rw [er] at hf'
   by_cases e:f=k
   ·subst e;exact ⟨by omega,hc⟩
   ·rw [if_neg e] at hf'
    exact ⟨by have:=(h.can f hf').1;omega,(h.can f hf').2⟩
  ·show t.need - n=_ - (sumF (elt (t.row.set k n)) k+elt (t.row.set k n) k)
   rw [sumF_congr (F:=elt (t.row.set k n)) (G:=elt t.row) (n:=k) (fun j hj=>by rw [er,if_neg (by omega)]),er,if_pos rfl,h.need]
   omega
section
variable {l:Lg} (hl:LgOk l) (hp:prf l=none)
include hl hp
end
end Go.Proofs.YtefogfgddofdmaaDoor

namespace Go.Proofs.YtefogfgddofdmaaDoor
open Go.Av
attribute [local irreducible] thenA blockA awp awpOps awpD awp1
attribute [local go_sem_proc] reduceAdd reduceMul reduceEqDiff Nat.reduceBEq reduceLeDiff
attribute [local go_sem_proc ↓] reduceIte
attribute [local go_sem] if_yes if_no
set_option maxHeartbeats 8000000
set_option maxRecDepth 20000
end Go.Proofs.YtefogfgddofdmaaDoor

namespace Go.Proofs.YtefogfgddofdmaaDoor
open Go.Av
set_option maxRecDepth 20000
structure More (x y:Fd):Prop where
 day:0≤y.day∧y.day≤x.day
 till:x.till≤y.till∧y.till≤3650
 amt:x.amt≤y.amt∧y.amt≤x.amt+9
 uses:y.uses=x.uses ∨ y.uses=[0,1,2,7]
def catN {α:Type} (g:Nat→List α):Nat→List α
 | 0=>[]
 | k+1=>catN g k ++ g k
def mostI (l:Lg) (i f:Nat) (left:List Int) (need:Int):Int:=if payB (fd l.fs f) (bl l.bs i) then min need (elt left f) else 0
def nextA (l:Lg) (i:Nat):Int:=if i < l.bs.length then (bl l.bs i).amt else 0
theorem catN_len {α:Type} {g:Nat→List α} {B:Nat}:∀ k,(∀ n,n < k→(g n).length≤B)→(catN g k).length≤k * B
 | 0,_=>Nat.zero_le _
 | k+1,h=>by
  have h1:=catN_len (g:=g) (B:=B) k (fun n hn=>h n (by omega))
  have h2:=h k (by omega)
  show (catN g k ++ g k).length≤_
  rw [List.length_append,Nat.succ_mul]
  omega
structure RowOk (l:Lg) (i:Nat) (r:List Int):Prop where
 len:r.length=l.fs.length
 nn:∀ f,0≤elt r f
 can:∀ f,0 < elt r f→payB (fd l.fs f) (bl l.bs i)=true
 sum:sumF (elt r) l.fs.length=(bl l.bs i).amt
theorem elt_out {l:List Int} {i:Nat} (h:l.length≤i):elt l i=0:=by
 unfold elt;rw [List.getD_eq_getElem?_getD,List.getElem?_eq_none h];rfl
theorem elt_nil (i:Nat):elt [] i=0:=elt_out (Nat.zero_le _)
theorem elt_snoc (row:List Int) (n:Int) (f:Nat):elt (row ++ [n]) f=if f=row.length then n else elt row f:=by
 by_cases h:f < row.length
 ·rw [elt_app h,if_neg (by omega)]
 ·by_cases e:f=row.length
  ·rw [if_pos e,e,elt_last]
  ·rw [if_neg e,elt_out (by rw [List.length_append,List.length_singleton];omega),elt_out (by omega)]
theorem lel_app {t:List (List Int)} {r:List Int} {i:Nat} (h:i < t.length):lel (t ++ [r]) i=lel t i:=by
 unfold lel;simp only[List.getD_eq_getElem?_getD];rw [List.getElem?_append_left h]
theorem lel_last {t:List (List Int)} {r:List Int}:lel (t ++ [r]) t.length=r:=by
 unfold lel;simp only[List.getD_eq_getElem?_getD];simp
structure Cons (l:Lg) (t:List (List Int)) (row left:List Int) (need:Int):Prop where
 tl:t.length≤l.bs.length
 rows:∀ i,i < t.length→RowOk l i (lel t i)
 rl:row.length≤l.fs.length
 rnn:∀ f,0≤elt row f
 rcan:∀ f,0 < elt row f→payB (fd l.fs f) (bl l.bs t.length)=true
 fin:t.length=l.bs.length→row=[]
 eqn:t.length < l.bs.length→need=(bl l.bs t.length).amt - sumF (elt row) l.fs.length
 nd:0≤need
 ll:left.length=l.fs.length
 eql:∀ f,f < l.fs.length→elt left f=(fd l.fs f).amt - sumF (fun i=>elt (lel t i) f) t.length - elt row f
 lnn:∀ f,f < l.fs.length→0≤elt left f
theorem nextA_nn {l:Lg} (hl:LgOk l) (i:Nat):0≤nextA l i:=by
 unfold nextA
 split
 ·rename_i h;exact (hl.b _ (bl_mem h)).amt.1
 ·omega
theorem Cons.bill {l:Lg} (hl:LgOk l) {t:List (List Int)} {row left:List Int} {need:Int} (h:Cons l t row left need) (h1:t.length < l.bs.length) (h2:row.length=l.fs.length) (h3:¬ 0 < need):Cons l (t ++ [row]) [] left (nextA l (t.length+1)):=by
 have hn:=h.eqn h1
 have hnd:=h.nd
 have hsum:∀ f,sumF (fun i=>elt (lel (t ++ [row]) i) f) (t.length+1)=sumF (fun i=>elt (lel t i) f) t.length+elt row f:=fun f=>by
  show sumF (fun i=>elt (lel (t ++ [row]) i) f) t.length+elt (lel (t ++ [row]) t.length) f=_
  rw [lel_last,sumF_congr (G:=fun i=>elt (lel t i) f) fun i hi=>by rw [lel_app hi]]
 refine ⟨by rw [List.length_append,List.length_singleton];omega,fun i hi=>?_,Nat.zero_le _,fun f=>by rw [elt_out (Nat.zero_le _)];omega,fun f hf=>by rw [elt_out (Nat.zero_le _)] at hf;omega,fun _=>rfl,fun hh=>?_,nextA_nn hl _,h.ll,fun f hf=>?_,h.lnn⟩
 ·rw [List.length_append,List.length_singleton] at hi
  by_cases e:i < t.length
  ·rw [lel_app e];exact h.rows i e
  ·obtain rfl:i=t.length:=by omega
   rw [lel_last]
   exact ⟨h2,h.rnn,h.rcan,by omega⟩
 ·rw [List.length_append,List.length_singleton] at hh ⊢
  unfold nextA
  rw [if_pos hh,sumF_zero (fun i _=>elt_out (Nat.zero_le _))];omega
 ·rw [List.length_append,List.length_singleton,hsum,elt_nil,h.eql f hf];omega
theorem Cons.fund {l:Lg} {t:List (List Int)} {row left:List Int} {need:Int} (h:Cons l t row left need) (h1:t.length < l.bs.length) (h2:row.length < l.fs.length) {n:Nat} (hn:n < (mostI l t.length row.length left need).toNat+1) :
  Cons l t (row ++ [((n:Nat):Int)]) (left.set row.length (elt left row.length - ((n:Nat):Int))) (need - ((n:Nat):Int)):=by
 have hnd:=h.nd
 have hlf:=h.lnn _ h2
 have hm:mostI l t.length row.length left need=if payB (fd l.fs row.length) (bl l.bs t.length) then min need (elt left row.length) else 0:=rfl
 have hb:((n:Nat):Int)≤need∧((n:Nat):Int)≤elt left row.length∧(0 < n→payB (fd l.fs row.length) (bl l.bs t.length)=true):=by
  cases hp:payB (fd l.fs row.length) (bl l.bs t.length)
  ·rw [hp] at hm
   have hm':mostI l t.length row.length left need=0:=hm
   refine ⟨by omega,by omega,fun h=>by omega⟩
  ·rw [hp] at hm
   have hm':mostI l t.length row.length left need=min need (elt left row.length):=hm
   refine ⟨by omega,by omega,fun _=>rfl⟩
 refine ⟨h.tl,h.rows,by rw [List.length_append,List.length_singleton];omega,fun f=>?_,fun f hf=>?_,fun e=>by omega,fun _=>?_,by omega,by rw [List.length_set];exact h.ll,fun f hf=>?_,fun f hf=>?_⟩
 ·rw [elt_snoc];split
  ·omega
  ·exact h.rnn f
 ·rw [elt_snoc] at hf
  split at hf
  ·rename_i e;rw [e];exact hb.2.2 (by omega)
  ·exact h.rcan f hf
 ·have h3:=sumF_one (F:=elt (row ++ [((n:Nat):Int)])) (G:=elt row) (k:=row.length) (n:=l.fs.length) h2 (fun i hi hik=>by rw [elt_snoc,if_neg hik])
  rw [elt_last,elt_out (Nat.le_refl _)] at h3
  rw [h3,h.eqn h1];omega
 ·rw [elt_set (by rw [h.ll];exact h2),elt_snoc]
  have:=h.eql f hf
  by_cases e:f=row.length
  ·rw [if_pos e,if_pos e,← e]
   have h0:elt row f=0:=elt_out (by omega)
   omega
  ·rw [if_neg e,if_neg e];exact this
 ·rw [elt_set (by rw [h.ll];exact h2)]
  split
  ·omega
  ·exact h.lnn f hf
end Go.Proofs.YtefogfgddofdmaaDoor

namespace Go.Proofs.YtefogfgddofdmaaDoor
open Go.Av
attribute [local irreducible] thenA blockA awp awpOps awpD awp1
attribute [local go_sem_proc] reduceAdd reduceMul reduceEqDiff Nat.reduceBEq reduceLeDiff
attribute [local go_sem_proc ↓] reduceIte
attribute [local go_sem] if_yes if_no
set_option maxHeartbeats 8000000
set_option maxRecDepth 20000
end Go.Proofs.YtefogfgddofdmaaDoor

namespace Go.Proofs.YtefogfgddofdmaaDoor
open Go.Av
attribute [local irreducible] thenA blockA awp awpOps awpD awp1
attribute [local go_sem_proc] reduceAdd reduceMul reduceEqDiff Nat.reduceBEq reduceLeDiff
attribute [local go_sem_proc ↓] reduceIte
attribute [local go_sem] if_yes if_no
set_option maxHeartbeats 8000000
set_option maxRecDepth 20000
end Go.Proofs.YtefogfgddofdmaaDoor

namespace Go.Proofs.YtefogfgddofdmaaDoor
open Go.Av
set_option maxRecDepth 20000
end Go.Proofs.YtefogfgddofdmaaDoor

namespace Go.Proofs.YtefogfgddofdmaaDoor
open Go.Av
attribute [local irreducible] thenA blockA awp awpOps awpD awp1
attribute [local go_sem_proc] reduceAdd reduceMul reduceEqDiff Nat.reduceBEq reduceLeDiff
attribute [local go_sem_proc ↓] reduceIte
attribute [local go_sem] if_yes if_no
set_option maxHeartbeats 8000000
set_option maxRecDepth 20000
end Go.Proofs.YtefogfgddofdmaaDoor

namespace Go.Proofs.YtefogfgddofdmaaDoor
open Go.Av
end Go.Proofs.YtefogfgddofdmaaDoor

namespace Go.Proofs.YtefogfgddofdmaaDoor
open Go.Av
attribute [local irreducible] thenA blockA awp awpOps awpD awp1
attribute [local go_sem_proc] reduceAdd reduceMul reduceEqDiff Nat.reduceBEq reduceLeDiff
attribute [local go_sem_proc ↓] reduceIte
attribute [local go_sem] if_yes if_no
set_option maxHeartbeats 8000000
set_option maxRecDepth 20000
def rowTt (t:List (List Int)):List AV:=[.lst 1 (t.map rowA)]
def OutP (h:AH) (v:AV) (O:List (List (List Int))):Prop:=(v=.nils∧O=[]) ∨ ∃ b:Nat × Nat,v=.slc b 1 0 O.length∧h.at_ b=some ⟨1,O.map rowTt⟩∧b.1 < h.clk
theorem OutP.to {g g':AH} {v:AV} {O:List (List (List Int))} (h:OutP g v O) (hk:∀ b m,v=.slc b 1 0 m→b.1 < g.clk→g'.at_ b=g.at_ b) (hc:g.clk≤g'.clk):OutP g' v O:=by
 rcases h with h|⟨b,h1,h2,h3⟩
 ·exact .inl h
 ·exact .inr ⟨b,h1,by rw [hk b _ h1 h3];exact h2,by omega⟩
theorem OutP.noL {g:AH} {v:AV} {O:List (List (List Int))} (h:OutP g v O):noL v=true:=by
 rcases h with ⟨rfl,_⟩|⟨b,rfl,_⟩ <;> rfl
end Go.Proofs.YtefogfgddofdmaaDoor

namespace Go.Proofs.YtefogfgddofdmaaDoor
open Go.Av
attribute [local irreducible] thenA blockA awp awpOps awpD awp1
attribute [local go_sem_proc] reduceAdd reduceMul reduceEqDiff Nat.reduceBEq reduceLeDiff
attribute [local go_sem_proc ↓] reduceIte
attribute [local go_sem] if_yes if_no
set_option maxHeartbeats 8000000
set_option maxRecDepth 20000
end Go.Proofs.YtefogfgddofdmaaDoor

namespace Go.Proofs.YtefogfgddofdmaaDoor
open Go.Av
attribute [local irreducible] thenA blockA awp awpOps awpD awp1
attribute [local go_sem_proc] reduceAdd reduceMul reduceEqDiff Nat.reduceBEq reduceLeDiff
attribute [local go_sem_proc ↓] reduceIte
attribute [local go_sem] if_yes if_no
set_option maxHeartbeats 8000000
set_option maxRecDepth 20000
end Go.Proofs.YtefogfgddofdmaaDoor

namespace Go.Proofs.YtefogfgddofdmaaDoor
open Go.Av
attribute [local irreducible] thenA blockA awp awpOps awpD awp1
attribute [local go_sem_proc] reduceAdd reduceMul reduceEqDiff Nat.reduceBEq reduceLeDiff
attribute [local go_sem_proc ↓] reduceIte
attribute [local go_sem] if_yes if_no
set_option maxHeartbeats 8000000
set_option maxRecDepth 20000
end Go.Proofs.YtefogfgddofdmaaDoor

namespace Go.Proofs.YtefogfgddofdmaaDoor
open Go.Av
set_option maxRecDepth 20000
section
variable {l:Lg} (hl:LgOk l) (hp:prf l=none)
include hl hp
end
end Go.Proofs.YtefogfgddofdmaaDoor

namespace Go.Proofs.YtefogfgddofdmaaDoor
open Go.Av
set_option maxRecDepth 20000
structure Fl where
 k:Int
 b:Int
 f:Int
def Fl.row (x:Fl):List AV:=[.int .i64 x.k,.int .i64 x.b,.int .i64 x.f]
@[go_sem] theorem Fl.row_eq (x:Fl):x.row=[.int .i64 x.k,.int .i64 x.b,.int .i64 x.f]:=rfl
def useF (l:Lg) (t:List (List Int)) (i f:Nat):List Fl:=if 0 < elt (lel t i) f∧payB (fd l.fs f) (bl l.bs i)=false then [⟨2,(i:Nat),(f:Nat)⟩] else []
def bilF (l:Lg) (t:List (List Int)) (i:Nat):List Fl:=if sumL (lel t i) ≠ (bl l.bs i).amt then [⟨1,(i:Nat),0⟩] else []
def rowFl (l:Lg) (t:List (List Int)) (i:Nat):List Fl:=bilF l t i ++ catN (useF l t i) l.fs.length
def colS (t:List (List Int)) (f n:Nat):Int:=sumF (fun i=>elt (lel t i) f) n
def funF (l:Lg) (t:List (List Int)) (f:Nat):List Fl:=if (fd l.fs f).amt < colS t f l.bs.length then [⟨3,0,(f:Nat)⟩] else []
def flL (l:Lg) (t:List (List Int)):List Fl:=catN (rowFl l t) l.bs.length ++ catN (funF l t) l.fs.length
def sqB (l:Lg) (t:List (List Int)):Bool:=t.all fun r=>decide (r.length=l.fs.length)
def numB (t:List (List Int)):Bool:=t.all fun r=>allIn 0 1000000000 r
def audE (l:Lg) (t:List (List Int)):Int:=if chkE l ≠ 0 then chkE l else if t.length ≠ l.bs.length then 1 else if sqB l t=false then 1 else if numB t=false then 2 else 0
def audL (l:Lg) (t:List (List Int)):List Fl:=if audE l t ≠ 0 then [] else flL l t
structure Tab (l:Lg) (t:List (List Int)):Prop where
 ok:LgOk l
 len:t.length=l.bs.length
 row:∀ i,i < l.bs.length→(lel t i).length=l.fs.length
 num:∀ i,i < l.bs.length→allIn 0 1000000000 (lel t i)=true
theorem lelI_mem {t:List (List Int)} {i:Nat} (h:i < t.length):lel t i ∈ t:=by
 unfold lel;rw [List.getD_eq_getElem?_getD,List.getElem?_eq_getElem h];exact List.getElem_mem _
theorem tab_of {l:Lg} {t:List (List Int)} (h:audE l t=0):Tab l t:=by
 unfold audE at h
 by_cases h0:chkE l=0
 case neg=>rw [if_pos h0] at h;exact absurd h h0
 rw [if_neg (fun e=>e h0)] at h
 by_cases h1:t.length=l.bs.length
 case neg=>rw [if_pos h1] at h;cases h
 rw [if_neg (fun e=>e h1)] at h
 cases h2:sqB l t
 ·rw [h2] at h;simp at h
 cases h3:numB t
 ·rw [h2,h3] at h;simp at h
 exact ⟨ledgerOk h0,h1,fun i hi=>of_decide_eq_true (List.all_eq_true.1 h2 _ (lelI_mem (by omega))),fun i hi=>List.all_eq_true.1 h3 _ (lelI_mem (by omega))⟩
theorem Tab.of {l:Lg} {t:List (List Int)} (h:Tab l t) (h0:chkE l=0):audE l t=0:=by
 have hm:∀ x ∈ t,∃ i,i < l.bs.length∧lel t i=x:=fun x hx=>by
  obtain ⟨i,hi,e⟩:=List.mem_iff_getElem.1 hx
  exact ⟨i,by rw [← h.len];exact hi,by unfold lel;rw [List.getD_eq_getElem?_getD,List.getElem?_eq_getElem hi];exact e⟩
 have h2:sqB l t=true:=List.all_eq_true.2 fun x hx=>by
  obtain ⟨i,hi,rfl⟩:=hm x hx
  exact decide_eq_true (h.row i hi)
 have h3:numB t=true:=List.all_eq_true.2 fun x hx=>by
  obtain ⟨i,hi,rfl⟩:=hm x hx
  exact h.num i hi
 unfold audE
 rw [if_neg (fun e=>e h0),if_neg (fun e=>e h.len),if_neg (by rw [h2];simp),if_neg (by rw [h3];simp)]
theorem Tab.elt {l:Lg} {t:List (List Int)} (h:Tab l t) {i:Nat} (hi:i < l.bs.length) (f:Nat):0≤elt (lel t i) f∧elt (lel t i) f≤1000000000:=by
 by_cases hf:f < (lel t i).length
 ·exact allIn_elt (h.num i hi) f hf
 ·rw [elt_out (by omega)];omega
end Go.Proofs.YtefogfgddofdmaaDoor
