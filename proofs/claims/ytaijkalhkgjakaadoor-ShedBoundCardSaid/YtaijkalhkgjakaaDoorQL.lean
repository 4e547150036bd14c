/- No valid plan takes fewer days than the bound; one worker who can do all. Plainly. -/
import Derived.Test.YtaijkalhkgjakaaDoorG2
import Derived.Test.YtaijkalhkgjakaaDoorP10
import Derived.Test.YtaijkalhkgjakaaDoorG38
import Derived.Test.YtaijkalhkgjakaaDoorG27
import Derived.Test.YtaijkalhkgjakaaDoorBaseD
import Derived.Test.YtaijkalhkgjakaaDoorRows
import Derived.LaidLaws
import Derived.LaidHandle
import Derived.FnData
open Nat (reduceAdd reduceMul reduceEqDiff reduceLeDiff)
open List (length_map)
set_option linter.all false
set_option linter.unusedSimpArgs false
set_option linter.unusedVariables false
namespace Go.Proofs.YtaijkalhkgjakaaDoor
open Go.Av
def sm (f:Nat→Int):Nat→Int
  | 0=>0
  | n+1=>sm f n+f n
theorem sm_le {f g:Nat→Int}:∀ {n:Nat},(∀ i,i < n→f i≤g i)→sm f n≤sm g n:=by
  intro n
  induction n with
  | zero=>intro _;exact Int.le_refl _
  | succ n ih =>
    intro h
    have:=ih fun i hi=>h i (by omega)
    have:=h n (by omega)
    simp only[sm];omega
theorem sm_congr {f g:Nat→Int} {n:Nat} (h:∀ i,i < n→f i=g i):sm f n=sm g n :=
  Int.le_antisymm (sm_le fun i hi=>Int.le_of_eq (h i hi)) (sm_le fun i hi=>Int.le_of_eq (h i hi).symm)
theorem sm_add (f g:Nat→Int):∀ n,sm (fun i=>f i+g i) n=sm f n+sm g n:=by
  intro n
  induction n with
  | zero=>rfl
  | succ n ih=>simp only[sm,ih];omega
theorem sm_const (c:Int):∀ n:Nat,sm (fun _=>c) n=n * c:=by
  intro n
  induction n with
  | zero=>simp [sm]
  | succ n ih =>
    simp only[sm,ih]
    have:((n+1:Nat):Int) * c=n * c+c:=by rw [show ((n+1:Nat):Int)=(n:Int)+1 by omega,Int.add_mul,Int.one_mul]
    omega
theorem sm_zero (n:Nat):sm (fun _=>0) n=0:=by rw [sm_const];simp
theorem sm_swap (F:Nat→Nat→Int) (m:Nat):∀ n,sm (fun i=>sm (F i) m) n=sm (fun j=>sm (fun i=>F i j) n) m:=by
  intro n
  induction n with
  | zero=>simp only[sm];rw [sm_zero]
  | succ n ih=>simp only[sm];rw [ih,sm_add]
theorem sm_at {w:Nat} (c:Int):∀ {n:Nat},w < n→sm (fun j=>if w=j then c else 0) n=c:=by
  intro n
  induction n with
  | zero=>intro h;omega
  | succ n ih =>
    intro h
    simp only[sm]
    by_cases e:w=n
    · subst e
      rw [sm_congr (g:=fun _=>0) fun i hi=>if_neg (by omega),sm_zero,if_pos rfl];omega
    · rw [ih (by omega),if_neg e];omega
theorem sm_one {y:Nat→Int}:∀ {n:Nat},(∀ i,i < n→y i=0 ∨ y i=1)→(∀ k i,k < i→i < n→y k=1→y i=1→False)→sm y n≤1:=by
  intro n
  induction n with
  | zero=>intro _ _;simp [sm]
  | succ n ih =>
    intro h1 h2
    simp only[sm]
    rcases h1 n (by omega) with e|e
    · have:=ih (fun i hi=>h1 i (by omega)) (fun k i hk hi=>h2 k i hk (by omega));omega
    · rw [sm_congr (g:=fun _=>0) fun i hi=>(h1 i (by omega)).resolve_right fun e2=>h2 i n hi (by omega) e2 e,sm_zero];omega
theorem sm_span {a b:Int} (h0:0≤a) (hab:a≤b):∀ n:Nat,sm (fun t=>if a≤(t:Int)∧(t:Int) < b then 1 else 0) n=if (n:Int)≤a then 0 else if (n:Int)≤b then n - a else b - a:=by
  intro n
  induction n with
  | zero=>simp only[sm];rw [if_pos (by omega)]
  | succ n ih =>
    simp only[sm,ih]
    by_cases h1:(n:Int)+1≤a
    · rw [if_pos (by omega),if_neg (by omega),if_pos (by omega)];omega
    · by_cases h2:(n:Int)+1≤b
      · rw [if_pos (c:=a≤(n:Int)∧(n:Int) < b) (by omega),if_neg (c:=((n+1:Nat):Int)≤a) (by omega),if_pos (c:=((n+1:Nat):Int)≤b) (by omega)]
        split
        · omega
        · rw [if_pos (by omega)];omega
      · rw [if_neg (c:=a≤(n:Int)∧(n:Int) < b) (by omega),if_neg (c:=((n+1:Nat):Int)≤a) (by omega),if_neg (c:=((n+1:Nat):Int)≤b) (by omega)]
        split
        · omega
        · split <;> omega
theorem wsum_sm (js:List Jb) (set:Nat):∀ n,wsum js set n=sm (fun i=>if inSet (jOf js i).s set then (jOf js i).d else 0) n:=by
  intro n
  induction n with
  | zero=>rfl
  | succ n ih=>simp only[wsum,sm,ih]
theorem hcnt_sm (ws:List Wk) (set:Nat):∀ n,hcnt ws set n=sm (fun w=>if (wOf ws w).has set then 1 else 0) n:=by
  intro n
  induction n with
  | zero=>rfl
  | succ n ih=>simp only[hcnt,sm,ih]
def act (S:Sp) (p:List Sf) (i:Nat) (t:Nat):Int:=if (pAt p i).d≤(t:Int)∧(t:Int) < (pAt p i).d+(S.j i).d then 1 else 0
theorem VP.manned {S:Sp} {p:List Sf} (h:VP S p):Manned S:=fun i hi=>by
  obtain ⟨a,b,c,_⟩:=h.w i hi
  exact ⟨(pAt p i).w.toNat,by omega,c⟩
theorem VP.act_sum {S:Sp} (hS:S.Ok) {p:List Sf} (h:VP S p) {i:Nat} (hi:i < S.js.length):sm (act S p i) (takesP S p).toNat=(S.j i).d:=by
  have hd:=hS.d i hi
  have e:S.sch.d i=(S.j i).d:=rfl
  obtain ⟨_,_,_,h0,_⟩:=h.w i hi
  have h1:=takesTo_ge (js:=S.js) (p:=p) hi
  have h2:takesTo S.js p S.js.length=takesP S p:=rfl
  have e3:jOf S.js i=S.j i:=rfl
  rw [e3,h2] at h1
  have:=sm_span (a:=(pAt p i).d) (b:=(pAt p i).d+(S.j i).d) h0 (by omega) (takesP S p).toNat
  unfold act
  rw [this,if_neg (by omega)]
  split <;> omega
theorem VP.act_le {S:Sp} (hS:S.Ok) {p:List Sf} (h:VP S p) (set t:Nat):sm (fun i=>if inSet (S.j i).s set then act S p i t else 0) S.js.length≤hcnt S.ws set S.ws.length:=by
  have e1:sm (fun i=>if inSet (S.j i).s set then act S p i t else 0) S.js.length=sm (fun i=>sm (fun w=>if (pAt p i).w.toNat=w then (if inSet (S.j i).s set then act S p i t else 0) else 0) S.ws.length) S.js.length :=
    sm_congr fun i hi=>by
      obtain ⟨a,b,_⟩:=h.w i hi
      rw [sm_at _ (by omega)]
  rw [e1,sm_swap,hcnt_sm]
  refine sm_le fun w hw=>?_
  have h01:∀ i,act S p i t=0 ∨ act S p i t=1:=fun i=>by unfold act;split <;> simp
  cases hh:(wOf S.ws w).has set with
  | false =>
    rw [sm_congr (g:=fun _=>0),sm_zero]
    · simp
    · intro i hi
      split
      · rename_i e
        split
        · rename_i hs
          obtain ⟨a,b,c,_⟩:=h.w i hi
          have hj:=hS.j hi
          have:=inSet_has ⟨hj.2.2.1,hj.2.2.2.1⟩ hs c
          have e3:S.wk (pAt p i).w.toNat=wOf S.ws w:=by rw [e];rfl
          rw [e3,hh] at this;cases this
        · rfl
      · rfl
  | true =>
    rw [if_pos rfl]
    refine sm_one (fun i hi=>?_) (fun k i hk hi e1 e2=>?_)
    · split
      · split
        · exact h01 i
        · exact .inl rfl
      · exact .inl rfl
    · split at e1
      · split at e1
        · split at e2
          · split at e2
            · rename_i w1 _ w2 _
              have hkl:=Nat.lt_trans hk hi
              have a1:=(h.w i hi).1
              have a2:=(h.w k hkl).1
              have:=h.clash k i hk hi (by omega)
              unfold act at e1 e2
              split at e1
              · split at e2
                · omega
                · omega
              · omega
            · omega
          · omega
        · omega
      · omega
theorem VP.wsum_le {S:Sp} (hS:S.Ok) {p:List Sf} (h:VP S p) (set:Nat):wsum S.js set S.js.length≤(takesP S p).toNat * hcnt S.ws set S.ws.length:=by
  rw [wsum_sm]
  have e1:sm (fun i=>if inSet (jOf S.js i).s set then (jOf S.js i).d else 0) S.js.length=sm (fun i=>sm (fun t=>if inSet (S.j i).s set then act S p i t else 0) (takesP S p).toNat) S.js.length :=
    sm_congr fun i hi=>by
      have e:jOf S.js i=S.j i:=rfl
      rw [e]
      split
      · rw [h.act_sum hS hi]
      · rw [sm_zero]
  rw [e1,sm_swap,← sm_const]
  exact sm_le fun t _=>h.act_le hS set t
theorem ceilD_le {n m:Int} {M:Nat} (hn:0≤n) (hm:1≤m) (h:n≤M * m):ceilD n m≤M:=by
  unfold ceilD
  rw [Int.tdiv_eq_ediv_of_nonneg (by omega)]
  have:(n+m - 1) / m < (M:Int)+1:=Int.ediv_lt_of_lt_mul (by omega) (by rw [Int.add_mul,Int.one_mul];omega)
  omega
theorem VP.fsum_le {S:Sp} {p:List Sf} (h:VP S p) (f:Int):∀ n,n≤S.js.length→fsum S.js f n=0 ∨ ∃ i,i < n∧(S.j i).f=f∧fsum S.js f n≤(pAt p i).d+(S.j i).d:=by
  intro n
  induction n with
  | zero=>intro _;exact .inl rfl
  | succ n ih =>
    intro hn
    simp only[fsum]
    by_cases e:(jOf S.js n).f=f
    · rw [if_pos e]
      right
      refine ⟨n,by omega,e,?_⟩
      have e3:jOf S.js n=S.j n:=rfl
      rw [e3]
      obtain ⟨_,_,_,h0,_⟩:=h.w n (by omega)
      rcases ih (by omega) with e2|⟨i,hi,hf,hle⟩
      · omega
      · have:=h.ord i n hi (by omega) (by rw [hf];exact e.symm)
        omega
    · rw [if_neg e,Int.add_zero]
      rcases ih (by omega) with e2|⟨i,hi,hf,hle⟩
      · exact .inl e2
      · exact .inr ⟨i,by omega,hf,hle⟩
theorem VP.bound {S:Sp} (hS:S.Ok) {p:List Sf} (h:VP S p):boundD S≤takesP S p:=by
  have h0:0≤takesP S p:=takesTo_nonneg _
  have hM:=h.manned
  have hb:∀ b,b≤takesP S p→∀ k,bndD S b k≤takesP S p:=by
    intro b hb k
    induction k with
    | zero=>exact hb
    | succ k ih =>
      rw [bndD]
      split
      · rename_i hw
        have h1:=hM.hands hS hw
        have:=ceilD_le (by omega) h1 (h.wsum_le hS k)
        omega
      · exact ih
  refine hb _ ?_ 8
  have hmem:=maxL_mem (l:=(List.range 7).map fun f=>fsum S.js (f:Nat) S.js.length) (by simp [List.range,List.range.loop])
  rw [List.mem_map] at hmem
  obtain ⟨f,_,hf⟩:=hmem
  rw [← hf]
  rcases h.fsum_le (f:Nat) S.js.length (Nat.le_refl _) with e|⟨i,hi,_,hle⟩
  · omega
  · have:=takesTo_ge (js:=S.js) (p:=p) hi
    have e3:jOf S.js i=S.j i:=rfl
    have h2:takesTo S.js p S.js.length=takesP S p:=rfl
    rw [e3,h2] at this
    omega
def alone (S:Sp):Sp:=⟨[⟨true,true,true⟩],S.js⟩
theorem alone_ok {S:Sp} (hS:S.Ok):(alone S).Ok:=by
  have h1:=hS.n7
  exact ⟨by show 1≤1;omega,by show 1≤4;omega,h1,hS.job⟩
theorem alone_manned (S:Sp):Manned (alone S):=fun i _=>⟨0,Nat.zero_lt_one,by
  show Wk.can ⟨true,true,true⟩ _=true
  unfold Wk.can;split
  · rfl
  · split <;> rfl⟩
def seqP (S:Sp):List Sf:=(List.range S.js.length).map fun i=>⟨0,seqT S i⟩
theorem pAt_seqP {S:Sp} {i:Nat} (h:i < S.js.length):pAt (seqP S) i=⟨0,seqT S i⟩:=by
  have:pAt (seqP S) i=((seqP S)[i]?).getD ⟨0,0⟩:=by simp [pAt,List.getD_eq_getElem?_getD]
  rw [this];simp [seqP,h]
theorem seqT_le {S:Sp} (hS:S.Ok):∀ {k:Nat},k≤S.js.length→seqT S k≤30 * k:=by
  intro k
  induction k with
  | zero=>intro _;exact Int.le_refl _
  | succ k ih =>
    intro hk
    have:=ih (by omega)
    have hj:=hS.j (show k < S.js.length by omega)
    unfold Jb.Ok at hj
    simp only[seqT];omega
theorem alone_vp {S:Sp} (hS:S.Ok):VP (alone S) (seqP S):=by
  have h7:=hS.n7
  refine ⟨by simp [seqP,alone],fun i hi=>?_,fun k i hki hi _=>?_,fun k i hki hi _=>.inl ?_⟩
  · have hi:i < S.js.length:=hi
    rw [pAt_seqP hi]
    have:=seqT_le hS (Nat.le_of_lt hi)
    have:=seqT_nonneg hS (Nat.le_of_lt hi)
    refine ⟨Int.le_refl _,by show (0:Int) < 1;omega,?_,this,by dsimp only;omega⟩
    show Wk.can ⟨true,true,true⟩ _=true
    unfold Wk.can;split
    · rfl
    · split <;> rfl
  all_goals
    have hi:i < S.js.length:=hi
    rw [pAt_seqP hi,pAt_seqP (Nat.lt_trans hki hi)]
    exact seqT_mono hS (Nat.le_of_lt hi) hki
theorem alone_takes {S:Sp} (hS:S.Ok):takesP (alone S) (seqP S)≤seqT S S.js.length:=by
  rcases takesTo_cases (js:=(alone S).js) (p:=seqP S) (alone S).js.length with e|⟨i,hi,e⟩
  · unfold takesP;rw [e];exact seqT_nonneg hS (Nat.le_refl _)
  · have hi:i < S.js.length:=hi
    unfold takesP;rw [e,pAt_seqP hi]
    exact seqT_mono hS (Nat.le_refl _) hi
theorem wsum7 {S:Sp} (hS:S.Ok):∀ {k:Nat},k≤S.js.length→wsum S.js 7 k=seqT S k:=by
  intro k
  induction k with
  | zero=>intro _;rfl
  | succ k ih =>
    intro hk
    have hj:=hS.j (show k < S.js.length by omega)
    unfold Jb.Ok at hj
    have hin:inSet (jOf S.js k).s 7=true:=by
      have e:jOf S.js k=S.j k:=rfl
      rw [e]
      have:(S.j k).s=1 ∨ (S.j k).s=2 ∨ (S.j k).s=3:=by omega
      rcases this with e|e|e <;> rw [e] <;> rfl
    simp only[wsum,seqT,ih (by omega),if_pos hin];rfl
theorem alone_all {S:Sp} (hS:S.Ok):(bestD (alone S)).2=seqT S S.js.length∧boundD (alone S)=seqT S S.js.length∧lackD (alone S)=false:=by
  have hA:=alone_ok hS
  have hM:=alone_manned S
  have hB:=bestD_ok hA hM
  have h1:=hB.vp.bound hA
  have h2:=hB.takes
  have h3:=alone_takes hS
  have h4:=hB.best _ (alone_vp hS)
  have h5:seqT S S.js.length≤boundD (alone S):=by
    have e:wsum (alone S).js 7 (alone S).js.length=seqT S S.js.length:=wsum7 hS (Nat.le_refl _)
    have e1:hcnt (alone S).ws 7 (alone S).ws.length=1:=rfl
    unfold boundD
    rw [bndD]
    by_cases hp:0 < wsum (alone S).js 7 (alone S).js.length
    · rw [if_pos hp,e,e1]
      unfold ceilD
      rw [show seqT S S.js.length+1 - 1=seqT S S.js.length by omega,Int.tdiv_one]
      omega
    · rw [if_neg hp]
      have hb:∀ b,0≤b→∀ k,0≤bndD (alone S) b k:=by
        intro b hb k
        induction k with
        | zero=>exact hb
        | succ k ih=>rw [bndD];split <;> omega
      have hmem:=maxL_mem (l:=(List.range 7).map fun f=>fsum (alone S).js (f:Nat) (alone S).js.length) (by simp [List.range,List.range.loop])
      rw [List.mem_map] at hmem
      obtain ⟨f,_,hf⟩:=hmem
      have:=hb (maxL ((List.range 7).map fun f=>fsum (alone S).js (f:Nat) (alone S).js.length)) (by rw [← hf];exact (fsum_nonneg hA _ _ (Nat.le_refl _)).1) 7
      omega
  refine ⟨by omega,by omega,(lack_iff hA).2 hM⟩
theorem Less.days {S S':Sp} {φ:Nat→Nat} (L:Less S S' φ) (hS:S.Ok) (hS':S'.Ok) (hM:Manned S):lackD S'=false∧(bestD S').2≤(bestD S).2 :=
  have hM':=L.manned hM
  ⟨(lack_iff hS').2 hM',L.best (bestD_ok hS hM) (bestD_ok hS' hM')⟩
end Go.Proofs.YtaijkalhkgjakaaDoor

namespace Go.Proofs.YtaijkalhkgjakaaDoor
open Go.Av
attribute [local irreducible] thenA blockA awp awpOps awpD awp1
set_option maxHeartbeats 8000000
set_option maxRecDepth 20000
theorem bndV_no {S:Sp} (hS:S.Ok) (h:lackD S=true):bndV S=(0,7):=by unfold bndV;rw [if_neg (fun q=>q (shop_zero hS)),if_pos h]
theorem bndV_yes {S:Sp} (hS:S.Ok) (h:lackD S=false):bndV S=(boundD S,0):=by unfold bndV;rw [if_neg (fun q=>q (shop_zero hS)),if_neg (by rw [h];decide)]
theorem takV_zero {S:Sp} (hS:S.Ok) {p:List Sf} (h:(takV S p).2=0):VP S p∧(takV S p).1=takesP S p:=by
  by_cases h2:chkP S p=0
  · exact ⟨(chkP_vp hS).1 h2,by rw [takV_ok (shop_zero hS) h2]⟩
  · rw [takV_err (shop_zero hS) h2] at h;exact absurd h h2
theorem alone_av (S:Sp):(alone S).av=.agg [.lst 3 [[.bool true,.bool true,.bool true]],.lst 3 (S.js.map Jb.row)]:=rfl
theorem law10 (l:List Int) (hl:(l.length:Int)≤9223372036854775807):LawG gB Tryd.prog 10 [.lst 1 (l.map iv)]:=by
  intro h hgl
  refine ACalls.of tab mixed Tryd.call10 Tryd.func10 rfl (fi:=⟨131,[4,12],[84],none,[(4,[0,0,0,6,15,31,63,63,127,511],[(0,true),(1,false),(2,true),(3,false),(4,false),(5,false),(6,false),(7,false),(8,false),(9,false)])]⟩) rfl rfl (Nat.le_of_ble_eq_true rfl) (by decide) ?_
  unfold startA
  try simp only[go_sem]
  repeat' (first|refine st_seq_reg rfl (by first|(simp only[go_sem];rfl)|rfl) (by first|(simp only[go_sem];rfl)|rfl) ?_|refine st_op ?_|refine st_det rfl (by simp (disch:=omega) only[go_sem,wr_i64,if_yes,if_no,↓reduceIte,reduceAdd,reduceMul,reduceEqDiff,Nat.reduceBEq,reduceLeDiff];rfl) ?_|refine st_loc rfl (by simp (disch:=omega) only[go_sem,wr_i64,if_yes,if_no,↓reduceIte,reduceAdd,reduceMul,reduceEqDiff,Nat.reduceBEq,reduceLeDiff];rfl) ?_|refine st_store (by simp (disch:=omega) only[go_sem,wr_i64,if_yes,if_no,↓reduceIte,reduceAdd,reduceMul,reduceEqDiff,Nat.reduceBEq,reduceLeDiff];rfl) ?_|(refine st_callf rfl rfl (ACalls.keepGl (c15 l hl _)) ?_;rintro v h' ⟨hgl1,b,x,n,rfl,hb1,hb2,hu0,rfl⟩)|(refine st_drum (by first|(simp (disch:=omega) only[go_sem];rfl)|rfl) rfl (c14 b 3 5 5 (by decide) (by decide) (by decide)) (by first|(simp (disch:=omega) only[go_sem];rfl)|rfl) (by assumption) (by first|(simp only[go_sem];rfl)|rfl) (by intro x' n;first|(simp (disch:=omega) only[go_sem];rfl)|rfl) ?_;rintro v x' n hu' ⟨S,rfl,hG⟩ hn)|refine st_nil ?_)
  have hS:=hG.ok (by decide) (by decide) (by decide)
  have hgl2:h.gl=gB:=hgl
  have k17:=c17 S
  have k13:=c13
  have k49:=c49 S
  have h7:=hS.n7
  have h4:=hS.m4
  obtain ⟨a1,a2,a3⟩:=alone_all hS
  have j17:=c17 (alone S)
  have j49:=c49 (alone S)
  rw [bestV_yes (alone_ok hS) a3,a1,alone_av] at j17
  rw [bndV_yes (alone_ok hS) a3,a2,alone_av] at j49
  have hsq:=fun k hk=>seqT_le hS (k:=k) hk
  have hsq0:=fun k hk=>seqT_nonneg hS (k:=k) hk
  have hpv:∀ p:List Sf,(takV S p).2=0→lackD S=false∧(bestD S).2≤(takV S p).1∧boundD S≤(takV S p).1:=fun p hp=>by
    obtain ⟨q1,q2⟩:=takV_zero hS hp
    have hM:=q1.manned
    have hL:=(lack_iff hS).2 hM
    have hB:=bestD_ok hS hM
    have:=hB.best p q1
    have:=q1.bound hS
    exact ⟨hL,by omega,by omega⟩
  cases hM:lackD S with
  | true =>
    rw [bestV_no hS hM] at k17
    rw [bndV_no hS hM] at k49
    repeat' (first|refine st_seq_reg rfl (by first|(simp only[go_sem];rfl)|rfl) (by first|(simp only[go_sem];rfl)|rfl) ?_|refine st_seq_draw rfl (by first|(simp only[go_sem];rfl)|rfl) (by first|(simp only[go_sem];rfl)|rfl) ?_|refine st_op ?_|refine st_det rfl (by simp (disch:=omega) only[go_sem,wr_i64,if_yes,if_no,↓reduceIte,reduceAdd,reduceMul,reduceEqDiff,Nat.reduceBEq,reduceLeDiff];rfl) ?_|refine st_dop rfl ?_|(refine st_pureGE (by first|(simp (disch:=omega) only[go_sem];rfl)|rfl) rfl (k49) (by exact hgl) (by first|(simp only[go_sem];rfl)|rfl) (by intro n;first|(simp (disch:=omega) only[go_sem];rfl)|rfl) ?_;intro n hn)|(refine st_drum (by first|(simp (disch:=omega) only[go_sem];rfl)|rfl) rfl (c45 S hS b) (by first|(simp (disch:=omega) only[go_sem];rfl)|rfl) (by assumption) (by first|(simp only[go_sem];rfl)|rfl) (by intro x' n;first|(simp (disch:=omega) only[go_sem];rfl)|rfl) ?_;rintro v x' n hu' ⟨p,rfl,hpl⟩ hn)|(refine st_pureGE (by first|(simp (disch:=omega) only[go_sem];rfl)|rfl) rfl (c47 S _ (by omega)) (by exact hgl) (by first|(simp only[go_sem];rfl)|rfl) (by intro n;first|(simp (disch:=omega) only[go_sem];rfl)|rfl) ?_;intro n hn)|refine st_nil ?_|refine st_dnil ?_)
    have hne:¬ (takV S p).2=0:=fun q=>by have:=(hpv p q).1;rw [hM] at this;cases this
    repeat' (first|refine st_seq_reg rfl (by first|(simp only[go_sem];rfl)|rfl) (by first|(simp only[go_sem];rfl)|rfl) ?_|refine st_op ?_|refine st_det rfl (by simp (disch:=omega) only[go_sem,wr_i64,if_yes,if_no,↓reduceIte,reduceAdd,reduceMul,reduceEqDiff,Nat.reduceBEq,reduceLeDiff];rfl) ?_|refine st_loc rfl (by simp (disch:=omega) only[go_sem,wr_i64,if_yes,if_no,↓reduceIte,reduceAdd,reduceMul,reduceEqDiff,Nat.reduceBEq,reduceLeDiff];rfl) ?_|refine st_store (by simp (disch:=omega) only[go_sem,wr_i64,if_yes,if_no,↓reduceIte,reduceAdd,reduceMul,reduceEqDiff,Nat.reduceBEq,reduceLeDiff];rfl) ?_|(refine st_pureGE (by first|(simp (disch:=omega) only[go_sem];rfl)|rfl) rfl (k17) (by exact hgl) (by first|(simp only[go_sem];rfl)|rfl) (by intro n;first|(simp (disch:=omega) only[go_sem];rfl)|rfl) ?_;intro n hn)|(refine st_pureE (by first|(simp (disch:=omega) only[go_sem];rfl)|rfl) rfl (c16 S (by omega) (by omega)) (by first|(simp only[go_sem];rfl)|rfl) (by intro n;first|(simp (disch:=omega) only[go_sem];rfl)|rfl) ?_;intro n hn)|refine st_gT rfl rfl rfl ?_|refine st_gF rfl rfl rfl ?_|(refine st_gS rfl rfl ?_ ?_ <;> intro hg <;> (try simp only[decide_eq_true_eq,decide_eq_false_iff_not,Bool.not_eq_true',Bool.not_eq_false'] at hg))|refine st_condT rfl ?_|refine st_condF rfl ?_|refine st_nil ?_|refine st_tN ?_|refine st_seq ?_|refine st_block ?_|refine st_skip ?_|refine st_ret ?_|refine st_tR ?_)
    all_goals try (exfalso;omega)
    all_goals
      refine st_loopC (α:=Nat) tab mixed [] [] (by repeat (first|exact trivial|refine ⟨rfl,?_⟩)) [4,12] [_,_] (by repeat (first|exact trivial|refine ⟨rfl,?_⟩)) (fun i=>[(14,.int .i64 (i:Nat)),(13,.int .i64 (seqT S i))]) [(2,_),(4,_),(12,_)] (fun _=>[]) [_,_] (fun i=>i≤S.js.length) (fun i=>S.js.length - i) (by decide) 0 (Nat.zero_le _) (by (try simp only[go_sem]);repeat' (first|exact trivial|refine And.intro ?_ ?_|rfl|(simp (disch:=omega) only[go_sem,if_yes,if_no,↓reduceIte,reduceAdd,reduceMul,reduceEqDiff,Nat.reduceBEq,reduceLeDiff];rfl)|(simp (disch:=omega) only[go_sem,if_yes,if_no,↓reduceIte,reduceAdd,reduceMul,reduceEqDiff,Nat.reduceBEq,reduceLeDiff]))) (by (try simp only[go_sem]);repeat' (first|exact trivial|refine And.intro ?_ ?_|rfl|(simp (disch:=omega) only[go_sem,if_yes,if_no,↓reduceIte,reduceAdd,reduceMul,reduceEqDiff,Nat.reduceBEq,reduceLeDiff];rfl)|(simp (disch:=omega) only[go_sem,if_yes,if_no,↓reduceIte,reduceAdd,reduceMul,reduceEqDiff,Nat.reduceBEq,reduceLeDiff]))) (by first|(simp only[go_sem];rfl)|rfl) (by intro n;simp only[go_sem];rfl) ?_
      rintro i c hi hc
      simp only[go_sem]
      have h1:=hsq i hi
      have h2:=hsq0 i hi
      by_cases hil:i < S.js.length
      · have hji:=hS.j hil
        unfold Jb.Ok at hji
        have eji:S.j i=jOf S.js i:=rfl
        rw [eji] at hji
        repeat' (first|refine st_seq_reg rfl (by first|(simp only[go_sem,length_map];rfl)|rfl) (by first|(simp only[go_sem,length_map];rfl)|rfl) ?_|refine st_reg rfl (by first|(simp only[go_sem,length_map];rfl)|rfl) (by first|(simp only[go_sem,length_map];rfl)|rfl) ?_|refine st_op ?_|refine st_det rfl (by simp (disch:=omega) only[go_sem,wr_i64,if_yes,if_no,↓reduceIte,reduceAdd,reduceMul,reduceEqDiff,Nat.reduceBEq,reduceLeDiff,length_map];rfl) ?_|(refine st_condS rfl ?_ ?_ <;> intro hg <;> (try simp only[decide_eq_true_eq,decide_eq_false_iff_not,Bool.not_eq_true',Bool.not_eq_false'] at hg))|refine st_nil ?_|refine st_tN ?_|refine st_seq ?_|refine st_block ?_|refine st_skip ?_|refine st_exit ?_|refine st_tE ?_|refine st_bN ?_|refine st_bH ?_)
        all_goals try (exfalso;omega)
        refine ⟨i+1,(by omega),by omega,(by repeat' (first|exact trivial|refine And.intro ?_ ?_|rfl|(simp (disch:=omega) only[go_sem,if_yes,if_no,↓reduceIte,reduceAdd,reduceMul,reduceEqDiff,Nat.reduceBEq,reduceLeDiff];rfl)|(simp (disch:=omega) only[go_sem,if_yes,if_no,↓reduceIte,reduceAdd,reduceMul,reduceEqDiff,Nat.reduceBEq,reduceLeDiff]))),(by repeat' (first|exact trivial|refine And.intro ?_ ?_|rfl|(simp (disch:=omega) only[go_sem,if_yes,if_no,↓reduceIte,reduceAdd,reduceMul,reduceEqDiff,Nat.reduceBEq,reduceLeDiff];rfl)|(simp (disch:=omega) only[go_sem,if_yes,if_no,↓reduceIte,reduceAdd,reduceMul,reduceEqDiff,Nat.reduceBEq,reduceLeDiff]))),rfl,(by first|exact HOld.of _ (by omega)|exact HOld.put _ _ _ (by omega))⟩
      · have ei:i=S.js.length:=by omega
        subst ei
        repeat' (first|refine st_seq_reg rfl (by first|(simp only[go_sem,length_map];rfl)|rfl) (by first|(simp only[go_sem,length_map];rfl)|rfl) ?_|refine st_reg rfl (by first|(simp only[go_sem,length_map];rfl)|rfl) (by first|(simp only[go_sem,length_map];rfl)|rfl) ?_|refine st_op ?_|refine st_det rfl (by simp (disch:=omega) only[go_sem,wr_i64,if_yes,if_no,↓reduceIte,reduceAdd,reduceMul,reduceEqDiff,Nat.reduceBEq,reduceLeDiff,length_map];rfl) ?_|(refine st_pureGE (by first|(simp (disch:=omega) only[go_sem,length_map];rfl)|rfl) rfl (j17) (by exact hgl) (by first|(simp only[go_sem,length_map];rfl)|rfl) (by intro n;first|(simp (disch:=omega) only[go_sem];rfl)|rfl) ?_;intro n hn)|(refine st_pureGE (by first|(simp (disch:=omega) only[go_sem,length_map];rfl)|rfl) rfl (j49) (by exact hgl) (by first|(simp only[go_sem,length_map];rfl)|rfl) (by intro n;first|(simp (disch:=omega) only[go_sem];rfl)|rfl) ?_;intro n hn)|(refine st_pureGE (by first|(simp (disch:=omega) only[go_sem,length_map];rfl)|rfl) rfl (k13) (by exact hgl) (by first|(simp only[go_sem,length_map];rfl)|rfl) (by intro n;first|(simp (disch:=omega) only[go_sem];rfl)|rfl) ?_;intro n hn)|refine st_gT rfl rfl rfl ?_|(refine st_condS rfl ?_ ?_ <;> intro hg <;> (try simp only[decide_eq_true_eq,decide_eq_false_iff_not,Bool.not_eq_true',Bool.not_eq_false'] at hg))|refine st_nil ?_|refine st_tN ?_|refine st_seq ?_|refine st_block ?_|refine st_skip ?_|refine st_exit ?_|refine st_ret ?_|refine st_tE ?_|refine st_bN ?_|refine st_bH ?_)
        all_goals try (exfalso;omega)
        simp (disch:=omega) only[AEnd,Tryd.results10,aresK,fin,go_sem,↓reduceIte,reduceEqDiff,reduceAdd,reduceLeDiff,if_yes,if_no,implies_true,true_and,and_true,List.reverse_cons,List.reverse_nil]
  | false =>
    have hB:=bestD_ok hS ((lack_iff hS).1 hM)
    have hbd:=hB.vp.bound hS
    have htk:=hB.takes
    rw [bestV_yes hS hM] at k17
    rw [bndV_yes hS hM] at k49
    repeat' (first|refine st_seq_reg rfl (by first|(simp only[go_sem];rfl)|rfl) (by first|(simp only[go_sem];rfl)|rfl) ?_|refine st_seq_draw rfl (by first|(simp only[go_sem];rfl)|rfl) (by first|(simp only[go_sem];rfl)|rfl) ?_|refine st_op ?_|refine st_det rfl (by simp (disch:=omega) only[go_sem,wr_i64,if_yes,if_no,↓reduceIte,reduceAdd,reduceMul,reduceEqDiff,Nat.reduceBEq,reduceLeDiff];rfl) ?_|refine st_dop rfl ?_|(refine st_pureGE (by first|(simp (disch:=omega) only[go_sem];rfl)|rfl) rfl (k49) (by exact hgl) (by first|(simp only[go_sem];rfl)|rfl) (by intro n;first|(simp (disch:=omega) only[go_sem];rfl)|rfl) ?_;intro n hn)|(refine st_drum (by first|(simp (disch:=omega) only[go_sem];rfl)|rfl) rfl (c45 S hS b) (by first|(simp (disch:=omega) only[go_sem];rfl)|rfl) (by assumption) (by first|(simp only[go_sem];rfl)|rfl) (by intro x' n;first|(simp (disch:=omega) only[go_sem];rfl)|rfl) ?_;rintro v x' n hu' ⟨p,rfl,hpl⟩ hn)|(refine st_pureGE (by first|(simp (disch:=omega) only[go_sem];rfl)|rfl) rfl (c47 S _ (by omega)) (by exact hgl) (by first|(simp only[go_sem];rfl)|rfl) (by intro n;first|(simp (disch:=omega) only[go_sem];rfl)|rfl) ?_;intro n hn)|refine st_nil ?_|refine st_dnil ?_)
    have hpv:=hpv p
    repeat' (first|refine st_seq_reg rfl (by first|(simp only[go_sem];rfl)|rfl) (by first|(simp only[go_sem];rfl)|rfl) ?_|refine st_op ?_|refine st_det rfl (by simp (disch:=omega) only[go_sem,wr_i64,if_yes,if_no,↓reduceIte,reduceAdd,reduceMul,reduceEqDiff,Nat.reduceBEq,reduceLeDiff];rfl) ?_|refine st_loc rfl (by simp (disch:=omega) only[go_sem,wr_i64,if_yes,if_no,↓reduceIte,reduceAdd,reduceMul,reduceEqDiff,Nat.reduceBEq,reduceLeDiff];rfl) ?_|refine st_store (by simp (disch:=omega) only[go_sem,wr_i64,if_yes,if_no,↓reduceIte,reduceAdd,reduceMul,reduceEqDiff,Nat.reduceBEq,reduceLeDiff];rfl) ?_|(refine st_pureGE (by first|(simp (disch:=omega) only[go_sem];rfl)|rfl) rfl (k17) (by exact hgl) (by first|(simp only[go_sem];rfl)|rfl) (by intro n;first|(simp (disch:=omega) only[go_sem];rfl)|rfl) ?_;intro n hn)|(refine st_pureE (by first|(simp (disch:=omega) only[go_sem];rfl)|rfl) rfl (c16 S (by omega) (by omega)) (by first|(simp only[go_sem];rfl)|rfl) (by intro n;first|(simp (disch:=omega) only[go_sem];rfl)|rfl) ?_;intro n hn)|refine st_gT rfl rfl rfl ?_|refine st_gF rfl rfl rfl ?_|(refine st_gS rfl rfl ?_ ?_ <;> intro hg <;> (try simp only[decide_eq_true_eq,decide_eq_false_iff_not,Bool.not_eq_true',Bool.not_eq_false'] at hg))|refine st_condT rfl ?_|refine st_condF rfl ?_|(refine st_condS rfl ?_ ?_ <;> intro hg <;> (try simp only[decide_eq_true_eq,decide_eq_false_iff_not,Bool.not_eq_true',Bool.not_eq_false'] at hg))|refine st_nil ?_|refine st_tN ?_|refine st_seq ?_|refine st_block ?_|refine st_skip ?_|refine st_ret ?_|refine st_tR ?_)
    all_goals try (exfalso;omega)
    all_goals try (exfalso;have:=hpv (by assumption);omega)
    all_goals
      refine st_loopC (α:=Nat) tab mixed [] [] (by repeat (first|exact trivial|refine ⟨rfl,?_⟩)) [4,12] [_,_] (by repeat (first|exact trivial|refine ⟨rfl,?_⟩)) (fun i=>[(14,.int .i64 (i:Nat)),(13,.int .i64 (seqT S i))]) [(2,_),(4,_),(12,_)] (fun _=>[]) [_,_] (fun i=>i≤S.js.length) (fun i=>S.js.length - i) (by decide) 0 (Nat.zero_le _) (by (try simp only[go_sem]);repeat' (first|exact trivial|refine And.intro ?_ ?_|rfl|(simp (disch:=omega) only[go_sem,if_yes,if_no,↓reduceIte,reduceAdd,reduceMul,reduceEqDiff,Nat.reduceBEq,reduceLeDiff];rfl)|(simp (disch:=omega) only[go_sem,if_yes,if_no,↓reduceIte,reduceAdd,reduceMul,reduceEqDiff,Nat.reduceBEq,reduceLeDiff]))) (by (try simp only[go_sem]);repeat' (first|exact trivial|refine And.intro ?_ ?_|rfl|(simp (disch:=omega) only[go_sem,if_yes,if_no,↓reduceIte,reduceAdd,reduceMul,reduceEqDiff,Nat.reduceBEq,reduceLeDiff];rfl)|(simp (disch:=omega) only[go_sem,if_yes,if_no,↓reduceIte,reduceAdd,reduceMul,reduceEqDiff,Nat.reduceBEq,reduceLeDiff]))) (by first|(simp only[go_sem];rfl)|rfl) (by intro n;simp only[go_sem];rfl) ?_
      rintro i c hi hc
      simp only[go_sem]
      have h1:=hsq i hi
      have h2:=hsq0 i hi
      by_cases hil:i < S.js.length
      · have hji:=hS.j hil
        unfold Jb.Ok at hji
        have eji:S.j i=jOf S.js i:=rfl
        rw [eji] at hji
        repeat' (first|refine st_seq_reg rfl (by first|(simp only[go_sem,length_map];rfl)|rfl) (by first|(simp only[go_sem,length_map];rfl)|rfl) ?_|refine st_reg rfl (by first|(simp only[go_sem,length_map];rfl)|rfl) (by first|(simp only[go_sem,length_map];rfl)|rfl) ?_|refine st_op ?_|refine st_det rfl (by simp (disch:=omega) only[go_sem,wr_i64,if_yes,if_no,↓reduceIte,reduceAdd,reduceMul,reduceEqDiff,Nat.reduceBEq,reduceLeDiff,length_map];rfl) ?_|(refine st_condS rfl ?_ ?_ <;> intro hg <;> (try simp only[decide_eq_true_eq,decide_eq_false_iff_not,Bool.not_eq_true',Bool.not_eq_false'] at hg))|refine st_nil ?_|refine st_tN ?_|refine st_seq ?_|refine st_block ?_|refine st_skip ?_|refine st_exit ?_|refine st_tE ?_|refine st_bN ?_|refine st_bH ?_)
        all_goals try (exfalso;omega)
        refine ⟨i+1,(by omega),by omega,(by repeat' (first|exact trivial|refine And.intro ?_ ?_|rfl|(simp (disch:=omega) only[go_sem,if_yes,if_no,↓reduceIte,reduceAdd,reduceMul,reduceEqDiff,Nat.reduceBEq,reduceLeDiff];rfl)|(simp (disch:=omega) only[go_sem,if_yes,if_no,↓reduceIte,reduceAdd,reduceMul,reduceEqDiff,Nat.reduceBEq,reduceLeDiff]))),(by repeat' (first|exact trivial|refine And.intro ?_ ?_|rfl|(simp (disch:=omega) only[go_sem,if_yes,if_no,↓reduceIte,reduceAdd,reduceMul,reduceEqDiff,Nat.reduceBEq,reduceLeDiff];rfl)|(simp (disch:=omega) only[go_sem,if_yes,if_no,↓reduceIte,reduceAdd,reduceMul,reduceEqDiff,Nat.reduceBEq,reduceLeDiff]))),rfl,(by first|exact HOld.of _ (by omega)|exact HOld.put _ _ _ (by omega))⟩
      · have ei:i=S.js.length:=by omega
        subst ei
        repeat' (first|refine st_seq_reg rfl (by first|(simp only[go_sem,length_map];rfl)|rfl) (by first|(simp only[go_sem,length_map];rfl)|rfl) ?_|refine st_reg rfl (by first|(simp only[go_sem,length_map];rfl)|rfl) (by first|(simp only[go_sem,length_map];rfl)|rfl) ?_|refine st_op ?_|refine st_det rfl (by simp (disch:=omega) only[go_sem,wr_i64,if_yes,if_no,↓reduceIte,reduceAdd,reduceMul,reduceEqDiff,Nat.reduceBEq,reduceLeDiff,length_map];rfl) ?_|(refine st_pureGE (by first|(simp (disch:=omega) only[go_sem,length_map];rfl)|rfl) rfl (j17) (by exact hgl) (by first|(simp only[go_sem,length_map];rfl)|rfl) (by intro n;first|(simp (disch:=omega) only[go_sem];rfl)|rfl) ?_;intro n hn)|(refine st_pureGE (by first|(simp (disch:=omega) only[go_sem,length_map];rfl)|rfl) rfl (j49) (by exact hgl) (by first|(simp only[go_sem,length_map];rfl)|rfl) (by intro n;first|(simp (disch:=omega) only[go_sem];rfl)|rfl) ?_;intro n hn)|(refine st_pureGE (by first|(simp (disch:=omega) only[go_sem,length_map];rfl)|rfl) rfl (k13) (by exact hgl) (by first|(simp only[go_sem,length_map];rfl)|rfl) (by intro n;first|(simp (disch:=omega) only[go_sem];rfl)|rfl) ?_;intro n hn)|refine st_gT rfl rfl rfl ?_|(refine st_condS rfl ?_ ?_ <;> intro hg <;> (try simp only[decide_eq_true_eq,decide_eq_false_iff_not,Bool.not_eq_true',Bool.not_eq_false'] at hg))|refine st_nil ?_|refine st_tN ?_|refine st_seq ?_|refine st_block ?_|refine st_skip ?_|refine st_exit ?_|refine st_ret ?_|refine st_tE ?_|refine st_bN ?_|refine st_bH ?_)
        all_goals try (exfalso;omega)
        simp (disch:=omega) only[AEnd,Tryd.results10,aresK,fin,go_sem,↓reduceIte,reduceEqDiff,reduceAdd,reduceLeDiff,if_yes,if_no,implies_true,true_and,and_true,List.reverse_cons,List.reverse_nil]
end Go.Proofs.YtaijkalhkgjakaaDoor

namespace Go.Proofs.YtaijkalhkgjakaaDoor
open Go.Av
attribute [local irreducible] Shp
set_option maxRecDepth 20000
def I64 (n:Int):Prop:=-9223372036854775808≤n∧n≤9223372036854775807
theorem shpInt {d:Nat} {vs:List AV} (h:Shp Tryd.prog (d+1) 3 vs):∃ n,vs=[.int .i64 n]∧I64 n:=by
  obtain ⟨n,e,hw⟩:=shp_int Tryd.underlying3 h
  exact ⟨n,e,wf_i64 hw⟩
theorem shpNums {d:Nat} {vs:List AV} (h:Shp Tryd.prog (d+2) 26 vs):∃ l:List Int,vs=[.lst 1 (l.map iv)]∧l.length≤maxLen:=by
  obtain ⟨l,e,h1,_⟩:=shp_slice (f:=iv) (q:=fun _=>True) Tryd.underlying26 (show Tryd.prog.cellsOf 3=1 by kernel_rfl) h fun r hr=>by
    obtain ⟨x,e,_⟩:=shpInt hr
    exact ⟨x,e,trivial⟩
  exact ⟨l,e,h1⟩
end Go.Proofs.YtaijkalhkgjakaaDoor

namespace Go.Proofs.YtaijkalhkgjakaaDoor
open Go.Av Go.ChangeShapes Go.WideShapes Go.ChangeAt Go.RowKit
abbrev laidL : List (String × DataW Unit) := [("bateria/shed.bitOf", Rows.laid_bateria_shed_bitOf)]
theorem g0 : Tryd.prog.globalNamed "bateria/shed.bitOf" = some 0 := by kernel_rfl
theorem t0:(Tryd.prog.globals[0]?).map (·.type)=some 145:=by kernel_rfl
theorem glB {W:World} (h:laidMetH Tryd.prog laidL W):GL (c00 W) gB:=by
  have h':laidMet Tryd.prog laidL W:=h
  obtain ⟨ps,⟨g,t,cs,fuel,p,q,e1,e2,e3,e4,_⟩,_⟩:=h'
  obtain rfl:=Option.some.inj (g0.symm.trans e1)
  obtain rfl:=Option.some.inj (t0.symm.trans e2)
  have e5:=four_of_trod Tryd.underlying145 Tryd.underlying3 (by kernel_rfl) (by kernel_rfl) e4
  intro i row hi
  unfold gB at hi
  split at hi
  · rename_i ei
    subst ei
    cases hi
    have hc:=World.var?_cell g0 e3
    refine ⟨?_,rfl,[.int .i64 0,.int .i64 1,.int .i64 2,.int .i64 4],fun j v hj=>?_,?_⟩
    · have hc0:W.cell? ⟨0,0,none⟩=some (.int .i64 0):=by rw [hc 0,← Array.getElem?_toList,e5];rfl
      exact World.block_lt_of_cell? _ _ hc0
    · rw [Nat.zero_add]
      show W.cell? ⟨0,j,none⟩=some v
      rw [hc j,← Array.getElem?_toList,e5];exact hj
    · simp [VRs,VR]
  · cases hi
noncomputable def laidWorld (os:Os):World :=
  let w0:=World.holding Tryd.prog os ⟨#[],#[],[]⟩
  { w0 with heap:=w0.heap.modify 0 fun
      | .cells _ t frozen=>.cells #[.int .i64 0,.int .i64 1,.int .i64 2,.int .i64 4] t frozen
      | o=>o }
theorem laidWorld_met (os:Os) (args:Array Value):laidMetH Tryd.prog laidL ((laidWorld os).forCall (fun _ _=>0) ⟨#[],args,[]⟩).memory :=
  show laidMet _ _ _ from laidMet_of_run' 8 (by kernel_rfl) (by kernel_rfl)
end Go.Proofs.YtaijkalhkgjakaaDoor
