/- Contracts of functions that the claim reaches: what each call gives, told in our own logic. Conditions: those of each theorem. -/
import Derived.Test.YtoafigpikgigaaaDoorV6
import Derived.Test.YtoafigpikgigaaaDoorV10
import Derived.Test.YtoafigpikgigaaaDoorQ22a
import Derived.Test.YtoafigpikgigaaaDoorQ24
import Derived.Test.YtoafigpikgigaaaDoorV8a
open List (length_map)
set_option linter.all false
set_option linter.unusedSimpArgs false
set_option linter.unusedVariables false
namespace Go.Proofs.YtoafigpikgigaaaDoor
open Go.Av
set_option maxRecDepth 20000
theorem catK_mem {g:Nat→List (List Int)} {a:Nat} {x:List Int}:∀ {n j:Nat},j < n→x ∈ g (a+j)→x ∈ catK g a n
 | 0,_,h,_=>absurd h (Nat.not_lt_zero _)
 | n+1,j,h,hx=>by
  show x ∈ catK g a n ++ g (a+n)
  rw [List.mem_append]
  by_cases e:j=n
  ·rw [← e];exact .inr hx
  ·exact .inl (catK_mem (by omega) hx)
theorem chs_in (n:Nat):∀ (m a:Nat) (x:List Int),x.length=m→x.Pairwise (· < ·)→(∀ y,y ∈ x→(a:Int)≤y∧y < n)→x ∈ chs n m a
 | 0,a,x,h,_,_=>by
  have:x=[]:=List.eq_nil_of_length_eq_zero h
  subst this
  show [] ∈ [[]];simp
 | m+1,a,[],h,_,_=>by cases h
 | m+1,a,y :: r,h,hp,hb=>by
  obtain ⟨hp1,hp2⟩:=List.pairwise_cons.1 hp
  have hy:=hb y (by simp)
  obtain ⟨j,rfl⟩:∃ j:Nat,y=j:=⟨y.toNat,by omega⟩
  have ih:=chs_in n m (j+1) r (by simpa using h) hp2 (fun z hz=>⟨by have:=hp1 z hz;omega,(hb z (by simp [hz])).2⟩)
  show _ ∈ catK (fun i=>(chs n m (i+1)).map (((i:Nat):Int) :: ·)) a (n - a)
  refine catK_mem (j:=j - a) (by omega) ?_
  rw [show a+(j - a)=j by omega]
  exact List.mem_map.2 ⟨r,ih,rfl⟩
def shutL (s:List Int) (n:Nat):List Int:=((List.range n).filter fun i=>decide (elt s i=2)).map fun i=>((i:Nat):Int)
theorem shutL_len (s:List Int):∀ n,((shutL s n).length:Int)=sumF (fun i=>if elt s i=2 then 1 else 0) n
 | 0=>rfl
 | n+1=>by
  have ih:=shutL_len s n
  unfold shutL at *
  rw [List.range_succ,List.filter_append,List.map_append,List.length_append]
  show _=sumF _ n+(if elt s n=2 then 1 else 0)
  rw [← ih]
  by_cases e:elt s n=2
  ·rw [if_pos e];simp [e]
  ·rw [if_neg e];simp [e]
theorem shutL_mem {s:List Int} {n:Nat} {x:Int}:x ∈ shutL s n ↔ ∃ i:Nat,i < n∧elt s i=2∧x=(i:Nat):=by
 unfold shutL
 rw [List.mem_map]
 constructor
 ·rintro ⟨i,h,rfl⟩
  rw [List.mem_filter,List.mem_range,decide_eq_true_eq] at h
  exact ⟨i,h.1,h.2,rfl⟩
 ·rintro ⟨i,h1,h2,rfl⟩
  exact ⟨i,by rw [List.mem_filter,List.mem_range,decide_eq_true_eq];exact ⟨h1,h2⟩,rfl⟩
theorem shutL_pw (s:List Int) (n:Nat):(shutL s n).Pairwise (· < ·):=by
 unfold shutL
 rw [List.pairwise_map]
 exact (List.Pairwise.filter _ List.pairwise_lt_range).imp fun h=>Int.ofNat_lt.2 h
theorem shutL_cls {s:List Int} {n i:Nat} (hi:i < n) (hv:elt s i=1 ∨ elt s i=2):cls (shutL s n) i=elt s i:=by
 unfold cls
 rcases hv with e|e
 ·rw [if_neg,e]
  rw [List.contains_iff_mem,shutL_mem]
  rintro ⟨j,_,h2,h3⟩
  have:j=i:=by omega
  rw [this,e] at h2;exact absurd h2 (by decide)
 ·rw [if_pos,e]
  rw [List.contains_iff_mem,shutL_mem]
  exact ⟨i,hi,e,rfl⟩
theorem sumF_ext {F G:Nat→Int}:∀ {n:Nat},(∀ i,i < n→F i=G i)→sumF F n=sumF G n
 | 0,_=>rfl
 | n+1,h=>by
  show sumF F n+F n=sumF G n+G n
  rw [sumF_ext (n:=n) fun i hi=>h i (by omega),h n (by omega)]
theorem catN_ext {α:Type} {f g:Nat→List α}:∀ {n:Nat},(∀ i,i < n→f i=g i)→catN f n=catN g n
 | 0,_=>rfl
 | n+1,h=>by
  show catN f n ++ f n=catN g n ++ g n
  rw [catN_ext (n:=n) fun i hi=>h i (by omega),h n (by omega)]
theorem ldHi_ext {t:Tw} (hT:TwOk t) {f g:Nat→Int} (h:∀ j,j < t.sts.length→f j=g j) (q st:Int):ldHi t f q st=ldHi t g q st:=by
 unfold ldHi
 refine sumF_ext fun i hi=>?_
 unfold hiF someB
 simp only[plc_ext h (hT.g i hi)]
theorem crL_ext {t:Tw} (hT:TwOk t) {f g:Nat→Int} (h:∀ j,j < t.sts.length→f j=g j):crL t f=crL t g:=by
 unfold crL
 refine catN_ext fun st _=>?_
 unfold crS
 refine catN_ext fun q _=>?_
 unfold crF
 rw [ldHi_ext hT h]
theorem clo_none {t:Tw} (hT:TwOk t) {M:Nat} (hc:clo t M=none) {s:List Int} (hl:s.length=t.sts.length) (hv:∀ i,i < t.sts.length→elt s i=1 ∨ elt s i=2) (hm:¬ (M:Int) < shN s):crL t (elt s) ≠ []:=by
 intro he
 rw [← crL_ext hT (f:=cls (shutL s t.sts.length)) fun j hj=>shutL_cls hj (hv j hj)] at he
 have hlen:=shutL_len s t.sts.length
 have hsh:shN s=sumF (fun i=>if elt s i=2 then 1 else 0) t.sts.length:=by unfold shN;rw [hl]
 rw [← hsh] at hlen
 have hle:(shutL s t.sts.length).length≤t.sts.length:=by
  unfold shutL
  rw [length_map]
  exact Nat.le_trans (List.length_filter_le _ _) (by rw [List.length_range];exact Nat.le_refl _)
 have hin:=chs_in t.sts.length _ 0 (shutL s t.sts.length) rfl (shutL_pw _ _) (fun y hy=>by
  obtain ⟨i,h1,_,rfl⟩:=shutL_mem.1 hy
  omega)
 unfold clo at hc
 rw [List.find?_eq_none] at hc
 refine hc _ (mem_catN.2 ⟨_,?_,hin⟩) (by rw [he];rfl)
 omega
end Go.Proofs.YtoafigpikgigaaaDoor

namespace Go.Proofs.YtoafigpikgigaaaDoor
open Go.Av
attribute [local irreducible] thenA blockA awp awpOps awpD awp1
attribute [local go_sem_proc] Nat.reduceAdd Nat.reduceMul Nat.reduceEqDiff Nat.reduceBEq Nat.reduceLeDiff
attribute [local go_sem_proc ↓] reduceIte
attribute [local go_sem] if_yes if_no
set_option maxHeartbeats 8000000
set_option maxRecDepth 20000
def prvV (t:Tw) (M:Nat):AV:=match clo t M with
 | some _=>.tup [.lst 4 [],.int .i64 7]
 | none=>.tup [.lst 4 ((prv t (M:Nat) (t.sts.length+1) (List.replicate t.sts.length 0)).map Rn.row),.int .i64 0]
def proveV (t:Tw) (most:Int):AV:=if chkE t ≠ 0 then .tup [.lst 4 [],.int .i64 (chkE t)] else if ¬ (0≤most∧most≤12) then .tup [.lst 4 [],.int .i64 2] else prvV t most.toNat
theorem ok94_zero (t:Tw) (most:Int):Ok94 t most (List.replicate t.sts.length 0):=⟨by simp,fun i hi=>.inl (by unfold elt;rw [List.getD_eq_getElem?_getD,List.getElem?_replicate];split <;> rfl)⟩
theorem c28 (t:Tw) (most:Int) (h6:chkE t=0→t.sts.length≤6):Pure Tryd.prog 28 [t.av,.int .i64 most] (fun v=>v=proveV t most):=by
 have k51:=c6 t
 have k68:=c20a 0 12 most
 refine Pure.give Tryd.call28 fun h hall=>?_
 by_cases h0:chkE t=0
 case neg =>
  refine ACalls.of tab mixed Tryd.call28 Tryd.func28 rfl (fi:=⟨33,[],[2,3,17],none,[]⟩) rfl rfl (Nat.le_of_ble_eq_true rfl) (by decide) ?_
  unfold startA
  simp only[go_sem]
  repeat' (first|refine st_seq_reg rfl (by first|(simp only[go_sem];rfl)|rfl) (by first|(simp only[go_sem];rfl)|rfl) ?_|refine st_op ?_|refine st_det rfl (by simp (disch:=omega) only[go_sem,wr_i64];rfl) ?_|(refine st_pureE (by first|(simp (disch:=omega) only[go_sem];rfl)|rfl) rfl (k51) (by first|(simp only[go_sem];rfl)|rfl) (by intro n;first|(simp (disch:=omega) only[go_sem];rfl)|rfl) ?_;intro n hn)|(refine st_condS rfl ?_ ?_ <;> intro hg <;> (try simp only[dcT,dcF,bnT,bnF] at hg))|refine st_nil ?_|refine st_tN ?_|refine st_seq ?_|refine st_skip ?_|refine st_ret ?_|refine st_tR ?_)
  all_goals try (exfalso;omega)
  simp (disch:=omega) only[AEnd,Tryd.results28,aresK,fin,go_sem,implies_true,true_and,and_true,List.reverse_cons,List.reverse_nil]
  exact .inl ⟨_,le_nil2 _ 4,by unfold proveV;rw [if_pos h0]⟩
 rw [h0] at k51
 have hT:=townOk h0
 have hsn:=hT.sn
 have hs6:=h6 h0
 by_cases h1:0≤most∧most≤12
 case neg =>
  rw [decide_eq_false h1] at k68
  refine ACalls.of tab mixed Tryd.call28 Tryd.func28 rfl (fi:=⟨33,[],[2,3,17],none,[]⟩) rfl rfl (Nat.le_of_ble_eq_true rfl) (by decide) ?_
  unfold startA
  simp only[go_sem]
  repeat' (first|refine st_seq_reg rfl (by first|(simp only[go_sem];rfl)|rfl) (by first|(simp only[go_sem];rfl)|rfl) ?_|refine st_op ?_|refine st_det rfl (by simp (disch:=omega) only[go_sem,wr_i64];rfl) ?_|(refine st_pureE (by first|(simp (disch:=omega) only[go_sem];rfl)|rfl) rfl (k51) (by first|(simp only[go_sem];rfl)|rfl) (by intro n;first|(simp (disch:=omega) only[go_sem];rfl)|rfl) ?_;intro n hn)|(refine st_pureE (by first|(simp (disch:=omega) only[go_sem];rfl)|rfl) rfl (k68) (by first|(simp only[go_sem];rfl)|rfl) (by intro n;first|(simp (disch:=omega) only[go_sem];rfl)|rfl) ?_;intro n hn)|refine st_condT rfl ?_|refine st_condF rfl ?_|refine st_nil ?_|refine st_tN ?_|refine st_seq ?_|refine st_skip ?_|refine st_ret ?_|refine st_tR ?_)
  all_goals try (exfalso;omega)
  simp (disch:=omega) only[AEnd,Tryd.results28,aresK,fin,go_sem,implies_true,true_and,and_true,List.reverse_cons,List.reverse_nil]
  exact .inl ⟨_,le_nil2 _ 4,by unfold proveV;rw [if_neg (fun e=>e h0),if_pos h1]⟩
 rw [decide_eq_true h1] at k68
 obtain ⟨M,rfl⟩:∃ m:Nat,most=m:=⟨most.toNat,by omega⟩
 have hE:proveV t (M:Nat)=prvV t M:=by
  unfold proveV;rw [if_neg (fun e=>e h0),if_neg (fun e=>e h1)];rfl
 rw [hE]
 have k85:=c31 t M (by omega) hT
 cases hcl:clo t M with
 | some L =>
  have hV:cloV t M=.tup [.lst 1 (L.map iv),.bool true]:=by unfold cloV;rw [hcl]
  rw [hV] at k85
  refine ACalls.of tab mixed Tryd.call28 Tryd.func28 rfl (fi:=⟨33,[],[2,3,17],none,[]⟩) rfl rfl (Nat.le_of_ble_eq_true rfl) (by decide) ?_
  unfold startA
  simp only[go_sem]
  repeat' (first|refine st_seq_reg rfl (by first|(simp only[go_sem];rfl)|rfl) (by first|(simp only[go_sem];rfl)|rfl) ?_|refine st_op ?_|refine st_det rfl (by simp (disch:=omega) only[go_sem,wr_i64];rfl) ?_|(refine st_pureE (by first|(simp (disch:=omega) only[go_sem];rfl)|rfl) rfl (k51) (by first|(simp only[go_sem];rfl)|rfl) (by intro n;first|(simp (disch:=omega) only[go_sem];rfl)|rfl) ?_;intro n hn)|(refine st_pureE (by first|(simp (disch:=omega) only[go_sem];rfl)|rfl) rfl (k68) (by first|(simp only[go_sem];rfl)|rfl) (by intro n;first|(simp (disch:=omega) only[go_sem];rfl)|rfl) ?_;intro n hn)|(refine st_pureE (by first|(simp (disch:=omega) only[go_sem];rfl)|rfl) rfl (k85) (by first|(simp only[go_sem];rfl)|rfl) (by intro n;first|(simp (disch:=omega) only[go_sem];rfl)|rfl) ?_;intro n hn)|refine st_condT rfl ?_|refine st_condF rfl ?_|refine st_nil ?_|refine st_tN ?_|refine st_seq ?_|refine st_skip ?_|refine st_ret ?_|refine st_tR ?_)
  all_goals try (exfalso;omega)
  simp (disch:=omega) only[AEnd,Tryd.results28,aresK,fin,go_sem,implies_true,true_and,and_true,List.reverse_cons,List.reverse_nil]
  exact .inl ⟨_,le_nil2 _ 4,by unfold prvV;rw [hcl]⟩
 | none =>
  have hV:cloV t M=.tup [.nils,.bool false]:=by unfold cloV;rw [hcl]
  rw [hV] at k85
  have hz:=stR_zero t.sts.length
  have hP:prvV t M=.tup [.lst 4 ((prv t (M:Nat) (t.sts.length+1) (List.replicate t.sts.length 0)).map Rn.row),.int .i64 0]:=by unfold prvV;rw [hcl]
  rw [hP]
  obtain ⟨d,hd⟩:∃ d,13≤d:=⟨13,Nat.le_refl _⟩
  refine ACalls.ofS tab Tryd.call28 Tryd.func28 rfl (fi:=⟨33,[],[2,3,17],none,[]⟩) rfl rfl (Nat.le_of_ble_eq_true rfl) ?_
  unfold startA
  refine asem_seq (fi:=⟨33,[],[2,3,17],none,[]⟩) tab mixed (by decide) ?_
  repeat' (first|refine st_reg rfl (by first|(simp only[go_sem];rfl)|rfl) (by first|(simp only[go_sem];rfl)|rfl) ?_|refine st_op ?_|refine st_det rfl (by simp (disch:=omega) only[go_sem,wr_i64];rfl) ?_|refine st_nil ?_|refine st_tN ?_)
  refine asem_seq (fi:=⟨33,[],[2,3,17],none,[]⟩) tab mixed (by decide) ?_
  repeat' (first|refine st_seq_reg rfl (by first|(simp only[go_sem];rfl)|rfl) (by first|(simp only[go_sem];rfl)|rfl) ?_|refine st_op ?_|refine st_det rfl (by simp (disch:=omega) only[go_sem,wr_i64];rfl) ?_|(refine st_pureE (by first|(simp (disch:=omega) only[go_sem];rfl)|rfl) rfl (k51) (by first|(simp only[go_sem];rfl)|rfl) (by intro n;first|(simp (disch:=omega) only[go_sem];rfl)|rfl) ?_;intro n hn)|refine st_condF rfl ?_|refine st_nil ?_|refine st_tN ?_|refine st_skip ?_)
  all_goals try (exfalso;omega)
  simp only[go_sem]
  refine asem_seq (fi:=⟨33,[],[2,3,17],none,[]⟩) tab mixed (by decide) ?_
  repeat' (first|refine st_seq_reg rfl (by first|(simp only[go_sem];rfl)|rfl) (by first|(simp only[go_sem];rfl)|rfl) ?_|refine st_op ?_|refine st_det rfl (by simp (disch:=omega) only[go_sem,wr_i64];rfl) ?_|(refine st_pureE (by first|(simp (disch:=omega) only[go_sem];rfl)|rfl) rfl (k68) (by first|(simp only[go_sem];rfl)|rfl) (by intro n;first|(simp (disch:=omega) only[go_sem];rfl)|rfl) ?_;intro n hn)|refine st_condF rfl ?_|refine st_nil ?_|refine st_tN ?_|refine st_skip ?_)
  simp only[go_sem]
  refine asem_seq (fi:=⟨33,[],[2,3,17],none,[]⟩) tab mixed (by decide) ?_
  repeat' (first|refine st_seq_reg rfl (by first|(simp only[go_sem];rfl)|rfl) (by first|(simp only[go_sem];rfl)|rfl) ?_|refine st_op ?_|refine st_det rfl (by simp (disch:=omega) only[go_sem,wr_i64];rfl) ?_|(refine st_pureE (by first|(simp (disch:=omega) only[go_sem];rfl)|rfl) rfl (k85) (by first|(simp only[go_sem];rfl)|rfl) (by intro n;first|(simp (disch:=omega) only[go_sem];rfl)|rfl) ?_;intro n hn)|refine st_condF rfl ?_|refine st_nil ?_|refine st_tN ?_|refine st_skip ?_)
  refine asem_seq (fi:=⟨33,[],[2,3,17],none,[]⟩) tab mixed (by decide) ?_
  repeat' (first|refine st_reg rfl (by first|(simp only[go_sem];rfl)|rfl) (by first|(simp only[go_sem];rfl)|rfl) ?_|refine st_op ?_|refine st_heap rfl (by simp (disch:=omega) only[go_sem,wr_i64];rfl) ?_|refine st_nil ?_|refine st_tN ?_)
  refine asem_seq (fi:=⟨33,[],[2,3,17],none,[]⟩) tab mixed (by decide) ?_
  repeat' (first|refine st_reg rfl (by first|(simp only[go_sem];rfl)|rfl) (by first|(simp only[go_sem];rfl)|rfl) ?_|refine st_op ?_|refine st_heap rfl (by simp (disch:=omega) only[go_sem,wr_i64];rfl) ?_|refine st_nil ?_|refine st_tN ?_)
  refine asem_seq (fi:=⟨33,[],[2,3,17],none,[]⟩) tab mixed (by decide) ?_
  repeat' (first|refine st_reg rfl (by first|(simp only[go_sem];rfl)|rfl) (by first|(simp only[go_sem];rfl)|rfl) ?_|refine st_op ?_|refine st_det rfl (by simp (disch:=omega) only[go_sem,wr_i64];rfl) ?_|refine st_store (by simp (disch:=omega) only[go_sem,wr_i64];rfl) ?_|refine st_nil ?_|refine st_tN ?_)
  refine ASem.knot (g:=.func 46) (cap:=pcap2 (n+1,9) t (M:Nat)) 10 (d+1) rfl (by simp only[go_sem,↓reduceIte];rfl) ?_
  refine asem_awp (fi:=⟨33,[],[2,3,17],none,[]⟩) tab mixed (by decide) ?_
  simp only[go_sem]
  have h2:(2:Nat) ^ (t.sts.length+1)≤2 ^ 7:=Nat.pow_le_pow_right (by decide) (by omega)
  have hc:=c46 t (M:Nat) (n+1,9) (n+2) hT (Nat.lt_succ_self _) (fun s a b c=>clo_none hT hcl a b c) (t.sts.length+1) d (by omega) (List.replicate t.sts.length 0) [] .nils (((h.tick (n+1+1+1+1+1)).put (n+1,9) (some ⟨1,[[.nils]]⟩)).put (n+1+1,10) none) (ok94_zero t _) (by rw [cntZ_rep];omega) (by show 0+2 ^ (t.sts.length+1) < 4999;omega) (by simp only[go_sem];omega) (by simp only[go_sem,Nat.reduceEqDiff,and_false,↓reduceIte] <;> rfl) (.inl ⟨rfl,rfl⟩)
  unfold W94 at hc
  rw [List.nil_append] at hc
  generalize prv t (M:Nat) (t.sts.length+1) (List.replicate t.sts.length 0)=p at *
  repeat' (first|refine st_seq_reg rfl (by first|(simp only[go_sem,hz,length_map];rfl)|rfl) (by first|(simp only[go_sem,hz,length_map];rfl)|rfl) ?_|refine st_op ?_|refine st_det rfl (by simp (disch:=omega) only[go_sem,wr_i64,hz,length_map];rfl) ?_|(refine st_call (args:=[.agg (stR (elt (List.replicate t.sts.length 0)))]) rfl (by first|(simp (disch:=omega) only[go_sem,hz];rfl)|(simp (disch:=omega) only[go_sem,hz])) rfl hc ?_;rintro v g1 ⟨rfl,q1,q2,q3,v1,q4,q5⟩)|refine st_condF rfl ?_|refine st_nil ?_|refine st_tN ?_|refine st_seq ?_|refine st_skip ?_)
  simp only[go_sem] at q1 q2 q3
  repeat' (first|refine st_op ?_|refine st_det rfl (by simp (disch:=omega) only[go_sem,wr_i64,q4];rfl) ?_|refine st_nil ?_|refine st_ret ?_)
  all_goals try (exfalso;omega)
  simp (disch:=omega) only[AEnd,Tryd.results28,aresK,fin,go_sem,implies_true,true_and,and_true,List.reverse_cons,List.reverse_nil]
  have e9:∀ b':Bid,b'.1 < h.clk→¬ b'=(n+1,9):=fun b' hb'=>ne_fst hb' (by show h.clk≤n+1;omega)
  have e10:∀ b':Bid,b'.1 < h.clk→¬ b'=(n+1+1,10):=fun b' hb'=>ne_fst hb' (by show h.clk≤n+1+1;omega)
  refine ⟨q5.noL,fun b' hb'=>by rw [q3 b' (e9 b' hb') (by omega),if_neg (e10 b' hb'),if_neg (e9 b' hb')],q2,SlA.ans2 (h:=h) (g:=g1) (R:=fun v=>v=.tup [.lst 4 (p.map Rn.row),.int .i64 0]) (q5.weak (by omega)) rfl⟩
end Go.Proofs.YtoafigpikgigaaaDoor

namespace Go.Proofs.YtoafigpikgigaaaDoor
open Go.Av Go.Txt Go.Lib
attribute [local irreducible] thenA blockA awp awpOps awpD awp1
attribute [local go_sem_proc] Nat.reduceAdd Nat.reduceMul Nat.reduceEqDiff Nat.reduceBEq Nat.reduceLeDiff
attribute [local go_sem_proc ↓] reduceIte
attribute [local go_sem] if_yes if_no
set_option maxHeartbeats 8000000
set_option maxRecDepth 20000
def crx (l:List Cr) (i:Nat):Cr:=l.getD i ⟨0,0,0⟩
@[go_sem] theorem crx_getD {l:List Cr} {i:Nat} (h:i < l.length):(l.map Cr.row).getD i []=(crx l i).row:=by
 simp [List.getD_eq_getElem?_getD,h,crx]
theorem c13s (a:List Cr) (ha:a.length≤1000000):Pure Tryd.prog 13 [.lst 3 (a.map Cr.row),.lst 3 (a.map Cr.row)] (fun v=>v=.bool true):=by
 intro h
 refine ACalls.forget (ACalls.of tab mixed Tryd.call13 Tryd.func13 rfl (fi:=⟨31,[],[],none,[(5,[0,0,3,7,0,0,48,112,255,511],[(0,false),(1,false),(2,false),(3,true),(4,false),(5,false),(6,false),(7,true),(8,false),(9,false)])]⟩) rfl rfl (Nat.le_of_ble_eq_true rfl) (by decide) ?_)
 unfold startA
 repeat' (first|refine st_seq_reg rfl (by first|(simp only[go_sem,length_map,decide_true];rfl)|rfl) (by first|(simp only[go_sem,length_map,decide_true];rfl)|rfl) ?_|refine st_reg rfl (by first|(simp only[go_sem,length_map,decide_true];rfl)|rfl) (by first|(simp only[go_sem,length_map,decide_true];rfl)|rfl) ?_|refine st_seq_draw rfl (by first|(simp only[go_sem,length_map,decide_true];rfl)|rfl) (by first|(simp only[go_sem,length_map,decide_true];rfl)|rfl) ?_|refine st_draw rfl (by first|(simp only[go_sem,length_map,decide_true];rfl)|rfl) (by first|(simp only[go_sem,length_map,decide_true];rfl)|rfl) ?_|refine st_op ?_|refine st_det rfl (by simp (disch:=omega) only[go_sem,wr_i64,length_map,decide_true];rfl) ?_|refine st_dop rfl ?_|refine st_gT rfl rfl rfl ?_|refine st_gF rfl rfl rfl ?_|refine st_dgT rfl rfl rfl rfl ?_|refine st_dgF rfl rfl rfl ?_|(refine st_gS rfl rfl ?_ ?_ <;> intro hg <;> (try simp only[dcT,dcF,bnT,bnF] at hg))|(refine st_dgS rfl rfl ?_ ?_ <;> intro hg <;> (try simp only[dcT,dcF,bnT,bnF] at hg))|refine st_condT rfl ?_|refine st_condF rfl ?_|(refine st_condS rfl ?_ ?_ <;> intro hg <;> (try simp only[dcT,dcF,bnT,bnF] at hg))|refine st_nil ?_|refine st_dnil ?_|refine st_tN ?_|refine st_seq ?_|refine st_block ?_|refine st_skip ?_|refine st_exit ?_|refine st_ret ?_|refine st_tE ?_|refine st_tR ?_|refine st_bN ?_|refine st_bR ?_|refine st_bH ?_|refine st_bM rfl ?_)
 all_goals try (exfalso;omega)
 refine st_loopC (α:=Nat) tab mixed [] [] (by repeat (first|exact trivial|refine ⟨rfl,?_⟩)) [] [] (by repeat (first|exact trivial|refine ⟨rfl,?_⟩)) (fun i=>[(6,.int .i64 (i:Nat)),(5,.bool true)]) [(0,_),(1,_)] (fun _=>[]) [] (fun i=>i≤a.length) (fun i=>a.length - i) (by decide) 0 (Nat.zero_le _) (by (try simp only[go_sem]);repeat' (first|exact trivial|refine And.intro ?_ ?_|rfl|(simp (disch:=omega) only[go_sem,if_yes,if_no,if_no];rfl)|(simp (disch:=omega) only[go_sem,if_yes,if_no,if_no]))) (by (try simp only[go_sem]);repeat' (first|exact trivial|refine And.intro ?_ ?_|rfl|(simp (disch:=omega) only[go_sem,if_yes,if_no,if_no];rfl)|(simp (disch:=omega) only[go_sem,if_yes,if_no,if_no]))) (by first|(simp only[go_sem];rfl)|rfl) (by intro n;simp only[go_sem];rfl) ?_
 rintro i c hi1 hc
 simp only[go_sem]
 by_cases hi:i < a.length
 case pos =>
  repeat' (first|refine st_seq_reg rfl (by first|(simp only[go_sem,length_map,decide_true];rfl)|rfl) (by first|(simp only[go_sem,length_map,decide_true];rfl)|rfl) ?_|refine st_reg rfl (by first|(simp only[go_sem,length_map,decide_true];rfl)|rfl) (by first|(simp only[go_sem,length_map,decide_true];rfl)|rfl) ?_|refine st_seq_draw rfl (by first|(simp only[go_sem,length_map,decide_true];rfl)|rfl) (by first|(simp only[go_sem,length_map,decide_true];rfl)|rfl) ?_|refine st_draw rfl (by first|(simp only[go_sem,length_map,decide_true];rfl)|rfl) (by first|(simp only[go_sem,length_map,decide_true];rfl)|rfl) ?_|refine st_op ?_|refine st_det rfl (by simp (disch:=omega) only[go_sem,wr_i64,length_map,decide_true];rfl) ?_|refine st_dop rfl ?_|refine st_gT rfl rfl rfl ?_|refine st_gF rfl rfl rfl ?_|refine st_dgT rfl rfl rfl rfl ?_|refine st_dgF rfl rfl rfl ?_|(refine st_gS rfl rfl ?_ ?_ <;> intro hg <;> (try simp only[dcT,dcF,bnT,bnF] at hg))|(refine st_dgS rfl rfl ?_ ?_ <;> intro hg <;> (try simp only[dcT,dcF,bnT,bnF] at hg))|refine st_condT rfl ?_|refine st_condF rfl ?_|(refine st_condS rfl ?_ ?_ <;> intro hg <;> (try simp only[dcT,dcF,bnT,bnF] at hg))|refine st_nil ?_|refine st_dnil ?_|refine st_tN ?_|refine st_seq ?_|refine st_block ?_|refine st_skip ?_|refine st_exit ?_|refine st_ret ?_|refine st_tE ?_|refine st_tR ?_|refine st_bN ?_|refine st_bR ?_|refine st_bH ?_|refine st_bM rfl ?_)
  all_goals try (exfalso;omega)
  refine ⟨i+1,by show i+1≤_;omega,by show a.length - (i+1) < a.length - i;omega,(by repeat' (first|exact trivial|refine And.intro ?_ ?_|rfl|(simp (disch:=omega) only[go_sem,if_yes,if_no,if_no];rfl)|(simp (disch:=omega) only[go_sem,if_yes,if_no,if_no]))),(by repeat' (first|exact trivial|refine And.intro ?_ ?_|rfl|(simp (disch:=omega) only[go_sem,if_yes,if_no,if_no];rfl)|(simp (disch:=omega) only[go_sem,if_yes,if_no,if_no]))),rfl,(by first|exact HOld.of _ (by omega)|exact HOld.put _ _ _ (by omega))⟩
 obtain rfl:i=a.length:=by omega
 repeat' (first|refine st_seq_reg rfl (by first|(simp only[go_sem,length_map];rfl)|rfl) (by first|(simp only[go_sem,length_map];rfl)|rfl) ?_|refine st_reg rfl (by first|(simp only[go_sem,length_map];rfl)|rfl) (by first|(simp only[go_sem,length_map];rfl)|rfl) ?_|refine st_seq_draw rfl (by first|(simp only[go_sem,length_map];rfl)|rfl) (by first|(simp only[go_sem,length_map];rfl)|rfl) ?_|refine st_draw rfl (by first|(simp only[go_sem,length_map];rfl)|rfl) (by first|(simp only[go_sem,length_map];rfl)|rfl) ?_|refine st_op ?_|refine st_det rfl (by simp (disch:=omega) only[go_sem,wr_i64,length_map];rfl) ?_|refine st_dop rfl ?_|refine st_gT rfl rfl rfl ?_|refine st_gF rfl rfl rfl ?_|refine st_dgT rfl rfl rfl rfl ?_|refine st_dgF rfl rfl rfl ?_|(refine st_gS rfl rfl ?_ ?_ <;> intro hg <;> (try simp only[dcT,dcF,bnT,bnF] at hg))|(refine st_dgS rfl rfl ?_ ?_ <;> intro hg <;> (try simp only[dcT,dcF,bnT,bnF] at hg))|refine st_condT rfl ?_|refine st_condF rfl ?_|(refine st_condS rfl ?_ ?_ <;> intro hg <;> (try simp only[dcT,dcF,bnT,bnF] at hg))|refine st_nil ?_|refine st_dnil ?_|refine st_tN ?_|refine st_seq ?_|refine st_block ?_|refine st_skip ?_|refine st_exit ?_|refine st_ret ?_|refine st_tE ?_|refine st_tR ?_|refine st_bN ?_|refine st_bR ?_|refine st_bH ?_|refine st_bM rfl ?_)
 all_goals try (exfalso;omega)
 simp (disch:=omega) only[AEnd,Tryd.results13,aresK,fin,go_sem,implies_true,true_and,and_true,List.reverse_cons,List.reverse_nil]
theorem c29s (a:List Rn) (ha:a.length≤1000000):Pure Tryd.prog 29 [.lst 4 (a.map Rn.row),.lst 4 (a.map Rn.row)] (fun v=>v=.bool true):=by
 intro h
 refine ACalls.forget (ACalls.of tab mixed Tryd.call29 Tryd.func29 rfl (fi:=⟨31,[],[],none,[(5,[0,0,3,7,0,0,48,112,255,511],[(0,false),(1,false),(2,false),(3,true),(4,false),(5,false),(6,false),(7,true),(8,false),(9,false)])]⟩) rfl rfl (Nat.le_of_ble_eq_true rfl) (by decide) ?_)
 unfold startA
 repeat' (first|refine st_seq_reg rfl (by first|(simp only[go_sem,length_map,decide_true];rfl)|rfl) (by first|(simp only[go_sem,length_map,decide_true];rfl)|rfl) ?_|refine st_reg rfl (by first|(simp only[go_sem,length_map,decide_true];rfl)|rfl) (by first|(simp only[go_sem,length_map,decide_true];rfl)|rfl) ?_|refine st_seq_draw rfl (by first|(simp only[go_sem,length_map,decide_true];rfl)|rfl) (by first|(simp only[go_sem,length_map,decide_true];rfl)|rfl) ?_|refine st_draw rfl (by first|(simp only[go_sem,length_map,decide_true];rfl)|rfl) (by first|(simp only[go_sem,length_map,decide_true];rfl)|rfl) ?_|refine st_op ?_|refine st_det rfl (by simp (disch:=omega) only[go_sem,wr_i64,length_map,decide_true];rfl) ?_|refine st_dop rfl ?_|refine st_gT rfl rfl rfl ?_|refine st_gF rfl rfl rfl ?_|refine st_dgT rfl rfl rfl rfl ?_|refine st_dgF rfl rfl rfl ?_|(refine st_gS rfl rfl ?_ ?_ <;> intro hg <;> (try simp only[dcT,dcF,bnT,bnF] at hg))|(refine st_dgS rfl rfl ?_ ?_ <;> intro hg <;> (try simp only[dcT,dcF,bnT,bnF] at hg))|refine st_condT rfl ?_|refine st_condF rfl ?_|(refine st_condS rfl ?_ ?_ <;> intro hg <;> (try simp only[dcT,dcF,bnT,bnF] at hg))|refine st_nil ?_|refine st_dnil ?_|refine st_tN ?_|refine st_seq ?_|refine st_block ?_|refine st_skip ?_|refine st_exit ?_|refine st_ret ?_|refine st_tE ?_|refine st_tR ?_|refine st_bN ?_|refine st_bR ?_|refine st_bH ?_|refine st_bM rfl ?_)
 all_goals try (exfalso;omega)
 refine st_loopC (α:=Nat) tab mixed [] [] (by repeat (first|exact trivial|refine ⟨rfl,?_⟩)) [] [] (by repeat (first|exact trivial|refine ⟨rfl,?_⟩)) (fun i=>[(6,.int .i64 (i:Nat)),(5,.bool true)]) [(0,_),(1,_)] (fun _=>[]) [] (fun i=>i≤a.length) (fun i=>a.length - i) (by decide) 0 (Nat.zero_le _) (by (try simp only[go_sem]);repeat' (first|exact trivial|refine And.intro ?_ ?_|rfl|(simp (disch:=omega) only[go_sem,if_yes,if_no,if_no];rfl)|(simp (disch:=omega) only[go_sem,if_yes,if_no,if_no]))) (by (try simp only[go_sem]);repeat' (first|exact trivial|refine And.intro ?_ ?_|rfl|(simp (disch:=omega) only[go_sem,if_yes,if_no,if_no];rfl)|(simp (disch:=omega) only[go_sem,if_yes,if_no,if_no]))) (by first|(simp only[go_sem];rfl)|rfl) (by intro n;simp only[go_sem];rfl) ?_
 rintro i c hi1 hc
 simp only[go_sem]
 by_cases hi:i < a.length
 case pos =>
  repeat' (first|refine st_seq_reg rfl (by first|(simp only[go_sem,length_map,decide_true];rfl)|rfl) (by first|(simp only[go_sem,length_map,decide_true];rfl)|rfl) ?_|refine st_reg rfl (by first|(simp only[go_sem,length_map,decide_true];rfl)|rfl) (by first|(simp only[go_sem,length_map,decide_true];rfl)|rfl) ?_|refine st_seq_draw rfl (by first|(simp only[go_sem,length_map,decide_true];rfl)|rfl) (by first|(simp only[go_sem,length_map,decide_true];rfl)|rfl) ?_|refine st_draw rfl (by first|(simp only[go_sem,length_map,decide_true];rfl)|rfl) (by first|(simp only[go_sem,length_map,decide_true];rfl)|rfl) ?_|refine st_op ?_|refine st_det rfl (by simp (disch:=omega) only[go_sem,wr_i64,length_map,decide_true];rfl) ?_|refine st_dop rfl ?_|refine st_gT rfl rfl rfl ?_|refine st_gF rfl rfl rfl ?_|refine st_dgT rfl rfl rfl rfl ?_|refine st_dgF rfl rfl rfl ?_|(refine st_gS rfl rfl ?_ ?_ <;> intro hg <;> (try simp only[dcT,dcF,bnT,bnF] at hg))|(refine st_dgS rfl rfl ?_ ?_ <;> intro hg <;> (try simp only[dcT,dcF,bnT,bnF] at hg))|refine st_condT rfl ?_|refine st_condF rfl ?_|(refine st_condS rfl ?_ ?_ <;> intro hg <;> (try simp only[dcT,dcF,bnT,bnF] at hg))|refine st_nil ?_|refine st_dnil ?_|refine st_tN ?_|refine st_seq ?_|refine st_block ?_|refine st_skip ?_|refine st_exit ?_|refine st_ret ?_|refine st_tE ?_|refine st_tR ?_|refine st_bN ?_|refine st_bR ?_|refine st_bH ?_|refine st_bM rfl ?_)
  all_goals try (exfalso;omega)
  refine ⟨i+1,by show i+1≤_;omega,by show a.length - (i+1) < a.length - i;omega,(by repeat' (first|exact trivial|refine And.intro ?_ ?_|rfl|(simp (disch:=omega) only[go_sem,if_yes,if_no,if_no];rfl)|(simp (disch:=omega) only[go_sem,if_yes,if_no,if_no]))),(by repeat' (first|exact trivial|refine And.intro ?_ ?_|rfl|(simp (disch:=omega) only[go_sem,if_yes,if_no,if_no];rfl)|(simp (disch:=omega) only[go_sem,if_yes,if_no,if_no]))),rfl,(by first|exact HOld.of _ (by omega)|exact HOld.put _ _ _ (by omega))⟩
 obtain rfl:i=a.length:=by omega
 repeat' (first|refine st_seq_reg rfl (by first|(simp only[go_sem,length_map];rfl)|rfl) (by first|(simp only[go_sem,length_map];rfl)|rfl) ?_|refine st_reg rfl (by first|(simp only[go_sem,length_map];rfl)|rfl) (by first|(simp only[go_sem,length_map];rfl)|rfl) ?_|refine st_seq_draw rfl (by first|(simp only[go_sem,length_map];rfl)|rfl) (by first|(simp only[go_sem,length_map];rfl)|rfl) ?_|refine st_draw rfl (by first|(simp only[go_sem,length_map];rfl)|rfl) (by first|(simp only[go_sem,length_map];rfl)|rfl) ?_|refine st_op ?_|refine st_det rfl (by simp (disch:=omega) only[go_sem,wr_i64,length_map];rfl) ?_|refine st_dop rfl ?_|refine st_gT rfl rfl rfl ?_|refine st_gF rfl rfl rfl ?_|refine st_dgT rfl rfl rfl rfl ?_|refine st_dgF rfl rfl rfl ?_|(refine st_gS rfl rfl ?_ ?_ <;> intro hg <;> (try simp only[dcT,dcF,bnT,bnF] at hg))|(refine st_dgS rfl rfl ?_ ?_ <;> intro hg <;> (try simp only[dcT,dcF,bnT,bnF] at hg))|refine st_condT rfl ?_|refine st_condF rfl ?_|(refine st_condS rfl ?_ ?_ <;> intro hg <;> (try simp only[dcT,dcF,bnT,bnF] at hg))|refine st_nil ?_|refine st_dnil ?_|refine st_tN ?_|refine st_seq ?_|refine st_block ?_|refine st_skip ?_|refine st_exit ?_|refine st_ret ?_|refine st_tE ?_|refine st_tR ?_|refine st_bN ?_|refine st_bR ?_|refine st_bH ?_|refine st_bM rfl ?_)
 all_goals try (exfalso;omega)
 simp (disch:=omega) only[AEnd,Tryd.results29,aresK,fin,go_sem,implies_true,true_and,and_true,List.reverse_cons,List.reverse_nil]
def townA:Tw:=roomy0 [109,80,50]
def townB:Tw:=roomy0 [110,80,70]
def townN:Tw:=⟨[],town0.sts,town0.gs,6⟩
def townR:Tw:=⟨town0.rooms,[⟨0,0⟩,⟨1,2⟩,⟨0,2⟩],town0.gs,6⟩
def townP:Tw:=⟨town0.rooms,town0.sts,[⟨60,70,0,0,2,0,[1]⟩,⟨20,40,1,2,1,0,[2]⟩],6⟩
def townS:Tw:=⟨town0.rooms,town0.sts,[⟨60,70,0,0,0,0,[0,1]⟩,⟨20,40,1,2,1,0,[2]⟩],6⟩
theorem x_chk0:chkE town0=0:=by decide +kernel
theorem x_chkN:chkE townN=4:=by decide +kernel
theorem x_chkR:chkE townR=1:=by decide +kernel
theorem x_chkP:chkE townP=1:=by decide +kernel
theorem x_chkS:chkE townS=2:=by decide +kernel
theorem closeA:closeV townA=.tup [.lst 1 [],.int .i64 7]:=by
 unfold closeV
 rw [if_neg (by decide +kernel),show clo townA townA.sts.length=none by decide +kernel]
theorem closeB:closeV townB=.tup [.lst 1 ([].map iv),.int .i64 0]:=by
 unfold closeV
 rw [if_neg (by decide +kernel),show clo townB townB.sts.length=some [] by decide +kernel]
theorem prove0:proveV town0 0=.tup [.lst 4 (proof0.map Rn.row),.int .i64 0]:=by
 unfold proveV prvV
 rw [if_neg (by decide +kernel),if_neg (by decide),show clo town0 (0:Int).toNat=none by decide +kernel]
 simp only
 rw [show prv town0 (((0:Int).toNat:Nat):Int) (town0.sts.length+1) (List.replicate town0.sts.length 0)=proof0 by decide +kernel]
theorem prove1:proveV town0 1=.tup [.lst 4 [],.int .i64 7]:=by
 unfold proveV prvV
 rw [if_neg (by decide +kernel),if_neg (by decide),show clo town0 (1:Int).toNat=some [0] by decide +kernel]
def proofA:List Rn:=[⟨2,0,0,1⟩]
theorem proveA:proveV townA 3=.tup [.lst 4 (proofA.map Rn.row),.int .i64 0]:=by
 unfold proveV prvV
 rw [if_neg (by decide +kernel),if_neg (by decide),show clo townA (3:Int).toNat=none by decide +kernel]
 simp only
 rw [show prv townA (((3:Int).toNat:Nat):Int) (townA.sts.length+1) (List.replicate townA.sts.length 0)=proofA by decide +kernel]
theorem proved1:provedV town0 1 proof0=.tup [.bool false,.int .i64 0]:=by
 unfold provedV
 rw [if_neg (by decide +kernel),if_neg (by decide),show provedB town0 1 proof0=false by decide +kernel]
theorem proved2:provedV town0 0 (proof0.take 4)=.tup [.bool false,.int .i64 0]:=by
 unfold provedV
 rw [if_neg (by decide +kernel),if_neg (by decide),show provedB town0 0 (proof0.take 4)=false by decide +kernel]
theorem way1:wayV town0 [] 0 2=.tup [.lst 1 ([0,2].map iv),.int .i64 0]:=by
 unfold wayV
 rw [if_neg (by decide +kernel),if_neg (by decide),show dst town0 [] 2 0=some 1 by decide +kernel]
 show AV.tup [.lst 1 ((wayL town0 [] 2 1 0).map iv),.int .i64 0]=_
 rw [show wayL town0 [] 2 1 0=[0,2] by decide +kernel]
theorem way2:wayV town0 [1,2] 0 2=.tup [.lst 1 [],.int .i64 7]:=by
 unfold wayV
 rw [if_neg (by decide +kernel),if_neg (by decide),show dst town0 [1,2] 2 0=none by decide +kernel]
 rfl
theorem card0:cardT town0=[116,111,119,110,32,54,10,115,113,117,97,114,101,32,49,49,48,10,115,113,117,97,114,101,32,56,48,10,115,113,117,97,114,101,32,53,48,10,115,116,114,101,101,116,32,48,32,49,10,115,116,114,101,101,116,32,49,32,50,10,115,116,114,101,101,116,32,48,32,50,10,103,114,111,117,112,32,54,48,32,55,48,32,48,32,48,32,50,32,48,32,48,32,49,10,103,114,111,117,112,32,50,48,32,52,48,32,49,32,50,32,49,32,48,32,50,10,101,110,100,32,50,10]:=by decide +kernel
theorem wr0:wrV town0=.tup [.str [116,111,119,110,32,54,10,115,113,117,97,114,101,32,49,49,48,10,115,113,117,97,114,101,32,56,48,10,115,113,117,97,114,101,32,53,48,10,115,116,114,101,101,116,32,48,32,49,10,115,116,114,101,101,116,32,49,32,50,10,115,116,114,101,101,116,32,48,32,50,10,103,114,111,117,112,32,54,48,32,55,48,32,48,32,48,32,50,32,48,32,48,32,49,10,103,114,111,117,112,32,50,48,32,52,48,32,49,32,50,32,49,32,48,32,50,10,101,110,100,32,50,10],.int .i64 0]:=by unfold wrV;rw [if_pos x_chk0,card0]
theorem lds4:ldsR town0 [] 4=.tup [.lst 2 ([((0:Int),(0:Int)),(0,0),(60,70)].map spR),.int .i64 0]:=by
 unfold ldsR
 rw [if_neg (by decide +kernel),if_neg (by decide +kernel)]
 have e:ldR town0 (cls []) 4 town0.rooms.length=[((0:Int),(0:Int)),(0,0),(60,70)].map spR:=by
  show [[AV.int .i64 (ldLo town0 (cls []) 0 4),.int .i64 (ldHi town0 (cls []) 0 4)],[.int .i64 (ldLo town0 (cls []) 1 4),.int .i64 (ldHi town0 (cls []) 1 4)],[.int .i64 (ldLo town0 (cls []) 2 4),.int .i64 (ldHi town0 (cls []) 2 4)]]=_
  rw [show ldLo town0 (cls []) 0 4=0 by decide +kernel,show ldHi town0 (cls []) 0 4=0 by decide +kernel,show ldLo town0 (cls []) 1 4=0 by decide +kernel,show ldHi town0 (cls []) 1 4=0 by decide +kernel,show ldLo town0 (cls []) 2 4=60 by decide +kernel,show ldHi town0 (cls []) 2 4=70 by decide +kernel]
  rfl
 rw [e]
def crs0:List Cr:=[⟨4,2,70⟩,⟨5,2,70⟩]
instance:DecidableEq Cr:=fun a b=>if h:a.step=b.step∧a.sq=b.sq∧a.most=b.most then .isTrue (by cases a;cases b;simp_all) else .isFalse (fun e=>h (by rw [e];exact ⟨rfl,rfl,rfl⟩))
theorem crsN:crsV town0 []=.tup [.lst 3 (crs0.map Cr.row),.int .i64 0]:=by
 unfold crsV
 rw [if_neg (by decide +kernel),show crL town0 (cls [])=crs0 by decide +kernel]
theorem crsO:crsV town0 [0]=.tup [.lst 3 [],.int .i64 0]:=by
 unfold crsV
 rw [if_neg (by decide +kernel),show crL town0 (cls [0])=[] by decide +kernel]
 rfl
theorem whX (c:List Int) (g st:Int) (L:List Int) (b:Bool) (h1:cloE town0 c=0) (h2:0≤g∧g < town0.gs.length) (h3:0≤st∧st≤town0.steps) (h4:whN town0 (cls c) (gp town0.gs g.toNat) st town0.rooms.length=L) (h5:someB town0 (cls c) (gp town0.gs g.toNat) (-1) st=b) :
  whV town0 c g st=.tup [.lst 1 (L.map iv),.bool b,.int .i64 0]:=by
 unfold whV
 rw [if_neg (fun e=>e h1),if_neg (fun e=>e h2),if_neg (fun e=>e h3),h4,h5]
theorem wh1:whV town0 [] 0 3=.tup [.lst 1 ([1].map iv),.bool false,.int .i64 0]:=whX _ _ _ _ _ (by decide +kernel) (by decide) (by decide) (by decide +kernel) (by decide +kernel)
theorem wh2:whV town0 [] 1 2=.tup [.lst 1 ([0,2].map iv),.bool false,.int .i64 0]:=whX _ _ _ _ _ (by decide +kernel) (by decide) (by decide) (by decide +kernel) (by decide +kernel)
theorem wh3:whV town0 [] 1 3=.tup [.lst 1 ([2].map iv),.bool true,.int .i64 0]:=whX _ _ _ _ _ (by decide +kernel) (by decide) (by decide) (by decide +kernel) (by decide +kernel)
theorem wh4:whV town0 [] 0 6=.tup [.lst 1 ([].map iv),.bool true,.int .i64 0]:=whX _ _ _ _ _ (by decide +kernel) (by decide) (by decide) (by decide +kernel) (by decide +kernel)
theorem wh5:whV town0 [1] 0 6=.tup [.lst 1 ([1].map iv),.bool false,.int .i64 0]:=whX _ _ _ _ _ (by decide +kernel) (by decide) (by decide) (by decide +kernel) (by decide +kernel)
end Go.Proofs.YtoafigpikgigaaaDoor
