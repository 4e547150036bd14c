/- Contracts of functions that the claim reaches: what each call gives, told in our own logic. Conditions: those of each theorem. -/
import Derived.Test.YthjbfdfhblloiaaBaseD
import Derived.Test.YthjbfdfhblloiaaQ18
import Derived.Test.YthjbfdfhblloiaaQ11
import Derived.Test.YthjbfdfhblloiaaQ31
import Derived.Test.YthjbfdfhblloiaaQ29
import Derived.Test.YthjbfdfhblloiaaW14
import Derived.Test.YthjbfdfhblloiaaQ73
open Nat (reduceAdd reduceMul reduceEqDiff reduceLeDiff)
open List (length_map)
set_option linter.all false
set_option linter.unusedSimpArgs false
set_option linter.unusedVariables false
namespace Go.Proofs.Ythjbfdfhblloiaa
open Go.Av
attribute [local irreducible] thenA blockA awp awpOps awpD awp1
set_option maxHeartbeats 8000000
set_option maxRecDepth 20000
def rowA (r:List Int):List AV:=[.lst 1 (r.map iv)]
def lel (l:List (List Int)) (i:Nat):List Int:=l.getD i []
@[go_sem] theorem rowA_getD {l:List (List Int)} {i:Nat} (h:i < l.length):(l.map rowA).getD i []=[.lst 1 ((lel l i).map iv)]:=by
  simp [lel,rowA,List.getD_eq_getElem?_getD,h]
theorem lel_mem {l:List (List Int)} {i:Nat} (h:i < l.length):lel l i ∈ l:=by
  unfold lel;rw [List.getD_eq_getElem?_getD,List.getElem?_eq_getElem h];exact List.getElem_mem h
def rowsN (bs:Nat→Nat × Nat) (t:List (List Int)):List (List AV):=(List.range t.length).map fun j=>nrow (bs j) ((lel t j).map iv)
theorem rowsN_len (bs:Nat→Nat × Nat) (t:List (List Int)):(rowsN bs t).length=t.length:=by simp [rowsN]
theorem lel_app {t:List (List Int)} {r:List Int} {j:Nat} (h:j < t.length):lel (t ++ [r]) j=lel t j:=by
  unfold lel;simp only[List.getD_eq_getElem?_getD];rw [List.getElem?_append_left h]
theorem lel_last {t:List (List Int)} {r:List Int}:lel (t ++ [r]) t.length=r:=by
  unfold lel;simp only[List.getD_eq_getElem?_getD];simp
theorem rowsN_next {bs bs':Nat→Nat × Nat} {t:List (List Int)} {r:List Int} (h:∀ j,j < t.length→bs' j=bs j):rowsN bs' (t ++ [r])=rowsN bs t ++ [[.slc (bs' t.length) 1 0 r.length]]:=by
  unfold rowsN
  rw [List.length_append,List.length_cons,List.length_nil,Nat.zero_add,List.range_succ,List.map_append]
  congr 1
  · exact List.map_congr_left fun j hj=>by rw [h j (List.mem_range.1 hj),lel_app (List.mem_range.1 hj)]
  · simp [nrow,lel_last]
structure RowsN (n0:Nat) (g:AH) (v:AV) (bs:Nat→Nat × Nat) (t:List (List Int)):Prop where
  at_:∀ j,j < t.length→g.at_ (bs j)=some ⟨1,(lel t j).map iv⟩
  ge:∀ j,j < t.length→n0≤(bs j).1
  lt:∀ j,j < t.length→(bs j).1 < g.clk
  ne:∀ j,j < t.length→∀ m,v ≠ .slc (bs j) 1 0 m
  inj:∀ j k,j < t.length→k < t.length→bs j=bs k→j=k
theorem RowsN.add {n0 k0 d N nn:Nat} {g H G:AH} {v v':AV} {bs:Nat→Nat × Nat} {t:List (List Int)} {row:List Int} {bb:Nat × Nat} {l:List (List AV)} (hA:AppA n0 k0 d H v 1 nn l v' G) (hR:RowsN n0 g v bs t) (hS:SlA n0 g v 1 (rowsN bs t)) (hH:∀ b:Bid,b.1 < g.clk→H.at_ b=g.at_ b) (hbb:H.at_ bb=some ⟨1,row.map iv⟩) (hb1:g.clk≤bb.1) (hbN:bb.1 < N) (hbd:bb ≠ (k0,d)) (hk0:g.clk≤k0) (hn0:n0≤g.clk):RowsN n0 (G.tick N) v' (fun j=>if j=t.length then bb else bs j) (t ++ [row]):=by
  have hlen:(t ++ [row]).length=t.length+1:=by simp
  have hnew:∀ b':Nat × Nat,(∀ m,v'=.slc b' 1 0 m→b'=(k0,d)):=fun b' m e=>by
    rcases hA.new with e'|e'
    · rw [e'] at e;cases e
    · rw [e'] at e;injection e with e1;exact e1.symm
  refine ⟨fun j hj=>?_,fun j hj=>?_,fun j hj=>?_,fun j hj m e=>?_,fun j k hj hk e=>?_⟩
  · show G.at_ (if j=t.length then bb else bs j)=_
    by_cases q:j=t.length
    · rw [if_pos q,q,lel_last,hA.keep bb (fun m e=>by have:=(hS.lt e).2.1;omega) hbd];exact hbb
    · have hj':j < t.length:=by omega
      have q2:=hR.lt j hj'
      rw [if_neg q,lel_app hj',hA.keep (bs j) (hR.ne j hj') (fun e=>by rw [e] at q2;dsimp only at q2;omega),hH _ q2]
      exact hR.at_ j hj'
  · show _≤(if j=t.length then bb else bs j).1
    by_cases q:j=t.length
    · rw [if_pos q];omega
    · rw [if_neg q];exact hR.ge j (by omega)
  · show (if j=t.length then bb else bs j).1 < N
    by_cases q:j=t.length
    · rw [if_pos q];exact hbN
    · rw [if_neg q];have:=hR.lt j (by omega);omega
  · have q1:=hnew _ m e
    by_cases q:j=t.length
    · rw [if_pos q] at q1;exact hbd q1
    · rw [if_neg q] at q1;have:=hR.lt j (by omega);rw [q1] at this;dsimp only at this;omega
  · have e:(if j=t.length then bb else bs j)=(if k=t.length then bb else bs k):=e
    by_cases q:j=t.length
    · by_cases q2:k=t.length
      · omega
      · rw [if_pos q,if_neg q2] at e;have:=hR.lt k (by omega);rw [← e] at this;omega
    · by_cases q2:k=t.length
      · rw [if_neg q,if_pos q2] at e;have:=hR.lt j (by omega);rw [e] at this;omega
      · rw [if_neg q,if_neg q2] at e;exact hR.inj j k (by omega) (by omega) e
theorem RowsN.tick {n0:Nat} {g:AH} {v:AV} {bs:Nat→Nat × Nat} {t:List (List Int)} (hR:RowsN n0 g v bs t) {n:Nat} (hn:g.clk≤n):RowsN n0 (g.tick n) v bs t :=
  ⟨hR.at_,hR.ge,fun j hj=>Nat.lt_of_lt_of_le (hR.lt j hj) hn,hR.ne,hR.inj⟩
def chG (n m:Nat) (i:Nat):List (List Int):=(chs n m (i+1)).map (((i:Nat):Int) :: ·)
theorem chs_len (n:Nat):∀ (m a:Nat),a≤n→(chs n m a).length≤2 ^ (n - a)∧∀ x ∈ chs n m a,x.length=m
  | 0,a,_=>⟨by simp [chs];exact Nat.one_le_two_pow,fun x hx=>by simp [chs] at hx;rw [hx];rfl⟩
  | m+1,a,ha=>by
    have key:∀ k,a+k≤n→(catK (chG n m) a k).length+2 ^ (n - a - k)≤2 ^ (n - a)∧∀ x ∈ catK (chG n m) a k,x.length=m+1:=by
      intro k
      induction k with
      | zero=>intro _;exact ⟨by simp [catK],fun x hx=>by cases hx⟩
      | succ k ih =>
        intro hk
        obtain ⟨h1,h2⟩:=ih (by omega)
        have h3:=chs_len n m (a+k+1) (by omega)
        have e:catK (chG n m) a (k+1)=catK (chG n m) a k ++ chG n m (a+k):=rfl
        have e2:(chG n m (a+k)).length=(chs n m (a+k+1)).length:=by simp [chG]
        have e3:2 ^ (n - a - k)=2 ^ (n - a - (k+1))+2 ^ (n - a - (k+1)):=by
          rw [show n - a - k=(n - a - (k+1))+1 by omega,Nat.pow_succ];omega
        have e4:n - (a+k+1)=n - a - (k+1):=by omega
        rw [e4] at h3
        refine ⟨by rw [e,List.length_append,e2];omega,fun x hx=>?_⟩
        rw [e] at hx
        rcases List.mem_append.1 hx with hx|hx
        · exact h2 x hx
        · unfold chG at hx
          obtain ⟨y,hy,rfl⟩:=List.mem_map.1 hx
          rw [List.length_cons,h3.2 y hy]
    have h:=key (n - a) (by omega)
    have e:chs n (m+1) a=catK (chG n m) a (n - a):=rfl
    rw [e]
    exact ⟨Nat.le_trans (Nat.le_add_right _ _) h.1,h.2⟩
theorem VLe.lst {e:Nat} {es es':List (List AV)} (hl:es'.length=es.length) (hr:∀ c xs,VRss c es xs→VRss c es' xs) (hc:∀ r ∈ es',r.length=e∧r.all AV.cell=true):VLe (.lst e es) (.lst e es'):=by
  intro c x h
  simp only[VR] at h ⊢
  obtain ⟨a,cap,vs,h1,h2,h3,h4,h5,h6⟩:=h
  refine ⟨a,cap,vs,by rw [hl];exact h1,by rw [hl];exact h2,fun ea=>?_,hc,h5,hr c vs h6⟩
  have:=h3 ea
  subst this
  exact List.length_eq_zero_iff.1 hl
theorem le_none:VLe (.lst 1 [[.nils]]) (.lst 1 [[.lst 1 []]]):=VLe.lst rfl (fun c xs h=>by
  simp only[VRss] at h ⊢
  obtain ⟨x,xs',h1,h2,h3⟩:=h
  have e:VLes [.nils] [.lst 1 []]:=by simp only[VLes];exact ⟨_,_,rfl,VLe.nils 1,rfl⟩
  exact ⟨x, xs', h1, e.rel h2, h3⟩) (fun r hr => by obtain rfl : r = [.lst 1 []] := by simpa using hr
                                                    exact ⟨rfl,rfl⟩)
theorem addc3 (a b:Nat):((a+(b+1):Nat):Int)=((a+b:Nat):Int)+1:=by omega
structure LnS where
  k:Nat
  v:AV
  g:AH
  bs:Nat→Nat × Nat
theorem c37 (n:Nat) (hn:n≤12):∀ (m a:Nat),a≤n→m≤12→Pure Try.prog 37 [.int .i64 (a:Nat),.int .i64 (n:Nat),.int .i64 (m:Nat)] (fun v=>v=.lst 1 ((chs n m a).map rowA)):=by
  intro m
  induction m with
  | zero =>
    intro a ha _
    refine Pure.give Try.call37 fun h hall=>?_
    refine ACalls.of tab mixed Try.call37 Try.func37 rfl (fi:=⟨43,[],[13,40],none,[]⟩) rfl rfl (Nat.le_of_ble_eq_true rfl) (by decide) ?_
    unfold startA
    repeat' (first|refine st_seq_reg rfl (by first|(simp only[go_sem];rfl)|rfl) (by first|(simp only[go_sem];rfl)|rfl) ?_|refine st_op ?_|refine st_det rfl (by simp (disch:=omega) only[go_sem,wr_i64,if_yes,if_no,↓reduceIte,reduceAdd,reduceMul,reduceEqDiff,Nat.reduceBEq,reduceLeDiff];rfl) ?_|refine st_condT rfl ?_|refine st_nil ?_|refine st_seq ?_|refine st_ret ?_|refine st_tR ?_)
    all_goals try (exfalso;omega)
    simp (disch:=omega) only[AEnd,Try.results37,aresK,fin,go_sem,↓reduceIte,reduceEqDiff,reduceAdd,reduceLeDiff,if_yes,if_no,implies_true,true_and,and_true,List.reverse_cons,List.reverse_nil]
    exact .inl ⟨_,le_none,rfl⟩
  | succ m ih =>
    intro a ha hm
    have hcl:=(chs_len n (m+1) a ha).1
    have hE:chs n (m+1) a=catK (chG n m) a (n - a):=rfl
    have h2n:2 ^ (n - a)≤4096:=Nat.le_trans (Nat.pow_le_pow_right (by decide) (by omega:n - a≤12)) (by decide)
    have hpre:∀ j,a+j≤n→(catK (chG n m) a j).length≤4096:=fun j hj=>by
      have:∀ k,(catK (chG n m) a j).length≤(catK (chG n m) a (j+k)).length:=by
        intro k
        induction k with
        | zero=>exact Nat.le_refl _
        | succ k ih=>exact Nat.le_trans ih (by show _≤(catK (chG n m) a (j+k) ++ _).length;rw [List.length_append];omega)
      have h1:=this (n - a - j)
      rw [show j+(n - a - j)=n - a by omega,← hE] at h1
      omega
    refine Pure.give Try.call37 fun h hall=>?_
    refine ACalls.ofS tab Try.call37 Try.func37 rfl (fi:=⟨43,[],[13,40],none,[]⟩) rfl rfl (Nat.le_of_ble_eq_true rfl) ?_
    unfold startA
    refine asem_seq (fi:=⟨43,[],[13,40],none,[]⟩) tab mixed (by decide) ?_
    repeat' (first|refine st_reg rfl (by first|(simp only[go_sem];rfl)|rfl) (by first|(simp only[go_sem];rfl)|rfl) ?_|refine st_op ?_|refine st_det rfl (by simp (disch:=omega) only[go_sem,wr_i64,if_yes,if_no,↓reduceIte,reduceAdd,reduceMul,reduceEqDiff,Nat.reduceBEq,reduceLeDiff];rfl) ?_|refine st_nil ?_|refine st_tN ?_)
    refine asem_seq (fi:=⟨43,[],[13,40],none,[]⟩) tab mixed (by decide) ?_
    repeat' (first|refine st_seq_reg rfl (by first|(simp only[go_sem];rfl)|rfl) (by first|(simp only[go_sem];rfl)|rfl) ?_|refine st_op ?_|refine st_det rfl (by simp (disch:=omega) only[go_sem,wr_i64,if_yes,if_no,↓reduceIte,reduceAdd,reduceMul,reduceEqDiff,Nat.reduceBEq,reduceLeDiff];rfl) ?_|refine st_condF rfl ?_|refine st_nil ?_|refine st_tN ?_|refine st_skip ?_)
    all_goals try (exfalso;omega)
    refine asem_seq (fi:=⟨43,[],[13,40],none,[]⟩) tab mixed (by decide) ?_
    repeat' (first|refine st_reg rfl (by first|(simp only[go_sem];rfl)|rfl) (by first|(simp only[go_sem];rfl)|rfl) ?_|refine st_op ?_|refine st_det rfl (by simp (disch:=omega) only[go_sem,wr_i64,if_yes,if_no,↓reduceIte,reduceAdd,reduceMul,reduceEqDiff,Nat.reduceBEq,reduceLeDiff];rfl) ?_|refine st_nil ?_|refine st_tN ?_)
    refine asem_seq (fi:=⟨43,[],[13,40],none,[]⟩) tab mixed (by decide) ?_
    repeat' (first|refine st_seq_reg rfl (by first|(simp only[go_sem];rfl)|rfl) (by first|(simp only[go_sem];rfl)|rfl) ?_|refine st_op ?_|refine st_det rfl (by simp (disch:=omega) only[go_sem,wr_i64,if_yes,if_no,↓reduceIte,reduceAdd,reduceMul,reduceEqDiff,Nat.reduceBEq,reduceLeDiff];rfl) ?_|refine st_nil ?_|refine st_block ?_)
    let I:List (List Int)→AV→AH→(Nat→Nat × Nat)→Prop:=fun t v g bs=>(∀ b':Nat × Nat,b'.1 < h.clk→g.at_ b'=h.at_ b')∧g.lp=h.lp∧h.clk≤g.clk∧SlA h.clk g v 1 (rowsN bs t)∧RowsN h.clk g v bs t
    refine st_loopH (α:=LnS) tab mixed [] [] (by repeat (first|exact trivial|refine ⟨rfl,?_⟩)) [] [] (by repeat (first|exact trivial|refine ⟨rfl,?_⟩)) (fun x=>[(8,.int .i64 ((a+x.k:Nat):Int)),(7,x.v)]) [(1,_),(2,_)] (fun _=>[]) [] (fun x=>x.g) (fun x=>a+x.k≤n∧I (catK (chG n m) a x.k) x.v x.g x.bs) (fun x=>n - (a+x.k)) (by decide) ⟨0,.nils,h,fun _=>(0,0)⟩ ⟨ha,fun _ _=>rfl,rfl,Nat.le_refl _,.inl ⟨rfl,rfl⟩,⟨fun j hj=>absurd hj (Nat.not_lt_zero _),fun j hj=>absurd hj (Nat.not_lt_zero _),fun j hj=>absurd hj (Nat.not_lt_zero _),fun j hj=>absurd hj (Nat.not_lt_zero _),fun j k hj=>absurd hj (Nat.not_lt_zero _)⟩⟩ (by (try simp only[go_sem]);repeat' (first|exact trivial|refine And.intro ?_ ?_|rfl|(simp (disch:=omega) only[go_sem,if_yes,if_no,↓reduceIte,reduceAdd,reduceMul,reduceEqDiff,Nat.reduceBEq,reduceLeDiff];rfl)|(simp (disch:=omega) only[go_sem,if_yes,if_no,↓reduceIte,reduceAdd,reduceMul,reduceEqDiff,Nat.reduceBEq,reduceLeDiff]))) (by (try simp only[go_sem]);repeat' (first|exact trivial|refine And.intro ?_ ?_|rfl|(simp (disch:=omega) only[go_sem,if_yes,if_no,↓reduceIte,reduceAdd,reduceMul,reduceEqDiff,Nat.reduceBEq,reduceLeDiff];rfl)|(simp (disch:=omega) only[go_sem,if_yes,if_no,↓reduceIte,reduceAdd,reduceMul,reduceEqDiff,Nat.reduceBEq,reduceLeDiff]))) (HOld.tick (by simp only[go_sem];omega)) ?_
    rintro ⟨j,v,g,bs⟩ c ⟨i1,i2,i3,i4,hS,hR⟩ hc
    dsimp only at i1 i2 i3 i4 hS hR hc
    simp only[go_sem]
    by_cases hj:a+j < n
    case neg =>
      have hj2:j=n - a:=by omega
      subst hj2
      rw [← hE] at hS hR
      repeat' (first|refine st_seq_reg rfl (by first|(simp only[go_sem];rfl)|rfl) (by first|(simp only[go_sem];rfl)|rfl) ?_|refine st_op ?_|refine st_det rfl (by simp (disch:=omega) only[go_sem,wr_i64,if_yes,if_no,↓reduceIte,reduceAdd,reduceMul,reduceEqDiff,Nat.reduceBEq,reduceLeDiff];rfl) ?_|(refine st_condS rfl ?_ ?_ <;> intro hg <;> (try simp only[decide_eq_true_eq,decide_eq_false_iff_not,Bool.not_eq_true',Bool.not_eq_false'] at hg))|refine st_nil ?_|refine st_tN ?_|refine st_seq ?_|refine st_block ?_|refine st_skip ?_|refine st_exit ?_|refine st_tE ?_|refine st_bH ?_)
      all_goals try (exfalso;omega)
      rcases hS with ⟨rfl,e⟩|⟨b1,rfl,q2,q3,q4⟩
      · have e2:chs n (m+1) a=[]:=by
          have:=congrArg List.length e
          rw [rowsN_len] at this
          exact List.length_eq_zero_iff.1 this
        refine asem_awp (fi:=⟨43,[],[13,40],none,[]⟩) tab mixed (by decide) ?_
        repeat' (first|refine st_seq_reg rfl (by first|(simp only[go_sem];rfl)|rfl) (by first|(simp only[go_sem];rfl)|rfl) ?_|refine st_op ?_|refine st_det rfl (by simp (disch:=omega) only[go_sem,wr_i64,if_yes,if_no,↓reduceIte,reduceAdd,reduceMul,reduceEqDiff,Nat.reduceBEq,reduceLeDiff];rfl) ?_|refine st_nil ?_|refine st_ret ?_)
        simp (disch:=omega) only[AEnd,Try.results37,aresK,fin,go_sem,↓reduceIte,reduceEqDiff,reduceAdd,reduceLeDiff,if_yes,if_no,implies_true,true_and,and_true,List.reverse_cons,List.reverse_nil]
        exact ⟨i2,i3,.inl ⟨_,VLe.nils 1,by rw [e2];rfl⟩⟩
      have htop:(g.tick (c+1)).at_ b1=some ⟨1,mixR 0 bs ((chs n (m+1) a).map fun r=>r.map iv)⟩:=by
        show g.at_ b1=_
        rw [q2]
        congr 2
        unfold rowsN mixR
        rw [length_map]
        refine List.map_congr_left fun j hj=>?_
        rw [if_neg (Nat.not_lt_zero _)]
        congr 1
        unfold lel
        simp [List.getD_eq_getElem?_getD,List.mem_range.1 hj]
      have hSl:SlN (g.tick (c+1)) b1 bs ((chs n (m+1) a).map fun r=>r.map iv) 0:=by
        refine ⟨htop,fun i _ hi=>?_,fun i hi e=>?_,fun i k hi hk e=>hR.inj i k (by simpa using hi) (by simpa using hk) e⟩
        · rw [length_map] at hi
          show g.at_ (bs i)=_
          rw [hR.at_ i hi]
          congr 2
          unfold lel
          simp [List.getD_eq_getElem?_getD,hi]
        · rw [length_map] at hi
          exact hR.ne i hi _ (by rw [e])
      refine ASem.frzRows (b1:=b1) (bs:=bs) (t:=(chs n (m+1) a).map fun r=>r.map iv) (fun i hi b k=>?_) _ 0 _ rfl hSl fun H' w1 w2 w3 w4=>?_
      · refine frzss_fix _ fun r hr x hx=>?_
        rw [length_map] at hi
        simp only[List.getD_eq_getElem?_getD,List.getElem?_map,List.getElem?_eq_getElem hi,Option.map_some,Option.getD_some] at hr
        obtain ⟨y,_,rfl⟩:=List.mem_map.1 hr
        rw [List.mem_singleton.1 hx];rfl
      have hrows:((chs n (m+1) a).map fun r=>r.map iv).map lrow=(chs n (m+1) a).map rowA:=by rw [List.map_map];rfl
      rw [hrows] at w1
      have hold2:∀ b':Bid,b'.1 < h.clk→H'.at_ b'=h.at_ b':=fun b' hb'=>by
        rw [w2 b' (fun e=>by rw [e] at hb';omega) (fun i _ hi e=>by rw [length_map] at hi;have:=hR.ge i hi;rw [← e] at this;omega)]
        exact i2 b' hb'
      refine asem_awp (fi:=⟨43,[],[13,40],none,[]⟩) tab mixed (by decide) ?_
      repeat' (first|refine st_seq_reg rfl (by first|(simp only[go_sem];rfl)|rfl) (by first|(simp only[go_sem];rfl)|rfl) ?_|refine st_op ?_|refine st_det rfl (by simp (disch:=omega) only[go_sem,wr_i64,if_yes,if_no,↓reduceIte,reduceAdd,reduceMul,reduceEqDiff,Nat.reduceBEq,reduceLeDiff];rfl) ?_|refine st_nil ?_|refine st_ret ?_)
      simp (disch:=omega) only[AEnd,Try.results37,aresK,fin,go_sem,↓reduceIte,reduceEqDiff,reduceAdd,reduceLeDiff,if_yes,if_no,implies_true,true_and,and_true,List.reverse_cons,List.reverse_nil]
      refine ⟨hold2,by rw [w4];exact i3,.inr ⟨b1,_,q3,w1,?_⟩⟩
      rw [rowsN_len,show (chs n (m+1) a).length=((chs n (m+1) a).map rowA).length by simp]
      exact frz_lst
    have ihp:Pure Try.prog 37 [.int .i64 (((a+j:Nat):Int)+1),.int .i64 (n:Nat),.int .i64 (((m+1:Nat):Int) - 1)] (fun v=>v=.lst 1 ((chs n m (a+j+1)).map rowA)):=by
      have k:=ih (a+j+1) (by omega) (by omega)
      rw [show (((a+j+1:Nat)):Int)=((a+j:Nat):Int)+1 by omega,show ((m:Nat):Int)=((m+1:Nat):Int) - 1 by omega] at k
      exact k
    have hrl:=chs_len n m (a+j+1) (by omega)
    have hrl2:2 ^ (n - (a+j+1))≤4096:=Nat.le_trans (Nat.pow_le_pow_right (by decide) (by omega:n - (a+j+1)≤12)) (by decide)
    have hpj:=hpre (j+1) (by omega)
    have hcat:catK (chG n m) a (j+1)=catK (chG n m) a j ++ (chs n m (a+j+1)).map (((a+j:Nat):Int) :: ·):=rfl
    repeat' (first|refine st_seq_reg rfl (by first|(simp only[go_sem];rfl)|rfl) (by first|(simp only[go_sem];rfl)|rfl) ?_|refine st_op ?_|refine st_det rfl (by simp (disch:=omega) only[go_sem,wr_i64,if_yes,if_no,↓reduceIte,reduceAdd,reduceMul,reduceEqDiff,Nat.reduceBEq,reduceLeDiff];rfl) ?_|(refine st_pureE (by first|(simp (disch:=omega) only[go_sem];rfl)|rfl) rfl (ihp) (by first|(simp only[go_sem];rfl)|rfl) (by intro n;first|(simp (disch:=omega) only[go_sem];rfl)|rfl) ?_;intro n hn)|(refine st_condS rfl ?_ ?_ <;> intro hg <;> (try simp only[decide_eq_true_eq,decide_eq_false_iff_not,Bool.not_eq_true',Bool.not_eq_false'] at hg))|refine st_nil ?_|refine st_tN ?_|refine st_seq ?_|refine st_block ?_|refine st_skip ?_|refine st_exit ?_|refine st_tE ?_|refine st_bH ?_)
    all_goals try (exfalso;omega)
    rename_i N hN
    generalize hrest:chs N m (a+j+1)=rest at *
    refine st_loopH (α:=LnS) tab mixed [] [] (by repeat (first|exact trivial|refine ⟨rfl,?_⟩)) [] [] (by repeat (first|exact trivial|refine ⟨rfl,?_⟩)) (fun x=>[(10,.int .i64 (x.k:Nat)),(7,x.v)]) [(1,_),(2,_),(8,_),(9,_)] (fun _=>[]) [] (fun x=>x.g) (fun x=>x.k≤rest.length∧I (catK (chG N m) a j ++ (rest.take x.k).map (((a+j:Nat):Int) :: ·)) x.v x.g x.bs) (fun x=>rest.length - x.k) (by decide) ⟨0,v,g,bs⟩ ⟨Nat.zero_le _,by show I (_ ++ []) _ _ _;rw [List.append_nil];exact ⟨i2,i3,i4,hS,hR⟩⟩ (by (try simp only[go_sem]);repeat' (first|exact trivial|refine And.intro ?_ ?_|rfl|(simp (disch:=omega) only[go_sem,if_yes,if_no,↓reduceIte,reduceAdd,reduceMul,reduceEqDiff,Nat.reduceBEq,reduceLeDiff];rfl)|(simp (disch:=omega) only[go_sem,if_yes,if_no,↓reduceIte,reduceAdd,reduceMul,reduceEqDiff,Nat.reduceBEq,reduceLeDiff]))) (by (try simp only[go_sem]);repeat' (first|exact trivial|refine And.intro ?_ ?_|rfl|(simp (disch:=omega) only[go_sem,if_yes,if_no,↓reduceIte,reduceAdd,reduceMul,reduceEqDiff,Nat.reduceBEq,reduceLeDiff];rfl)|(simp (disch:=omega) only[go_sem,if_yes,if_no,↓reduceIte,reduceAdd,reduceMul,reduceEqDiff,Nat.reduceBEq,reduceLeDiff]))) (HOld.tick (by simp only[go_sem];omega)) ?_
    rintro ⟨k,w,g2,bs2⟩ c2 ⟨l1,l2,l3,l4,hS2,hR2⟩ hc2
    dsimp only at l1 l2 l3 l4 hS2 hR2 hc2
    simp only[go_sem]
    by_cases hk:k < rest.length
    case neg =>
      obtain rfl:k=rest.length:=by omega
      rw [List.take_length,← hcat] at hS2 hR2
      repeat' (first|refine st_seq_reg rfl (by first|(simp only[go_sem,length_map];rfl)|rfl) (by first|(simp only[go_sem,length_map];rfl)|rfl) ?_|refine st_reg rfl (by first|(simp only[go_sem,length_map];rfl)|rfl) (by first|(simp only[go_sem,length_map];rfl)|rfl) ?_|refine st_op ?_|refine st_det rfl (by simp (disch:=omega) only[go_sem,wr_i64,if_yes,if_no,↓reduceIte,reduceAdd,reduceMul,reduceEqDiff,Nat.reduceBEq,reduceLeDiff,length_map];rfl) ?_|refine st_heap rfl (by simp (disch:=omega) only[go_sem,wr_i64,if_yes,if_no,↓reduceIte,reduceAdd,reduceMul,reduceEqDiff,Nat.reduceBEq,reduceLeDiff,length_map];rfl) ?_|refine st_append (by simp (disch:=omega) only[go_sem,wr_i64,if_yes,if_no,↓reduceIte,reduceAdd,reduceMul,reduceEqDiff,Nat.reduceBEq,reduceLeDiff,length_map];rfl) ?_|(refine st_condS rfl ?_ ?_ <;> intro hg <;> (try simp only[decide_eq_true_eq,decide_eq_false_iff_not,Bool.not_eq_true',Bool.not_eq_false'] at hg))|refine st_nil ?_|refine st_tN ?_|refine st_seq ?_|refine st_block ?_|refine st_skip ?_|refine st_exit ?_|refine st_tE ?_|refine st_bN ?_|refine st_bH ?_)
      all_goals try (exfalso;omega)
      refine ⟨⟨j+1,w,g2,bs2⟩,⟨by show a+(j+1)≤N;omega,l2,l3,l4,hS2,hR2⟩,by show N - (a+(j+1)) < N - (a+j);omega,(by (try (try simp only[go_sem,addc3]));repeat' (first|exact trivial|refine And.intro ?_ ?_|rfl|(simp (disch:=omega) only[go_sem,if_yes,if_no,↓reduceIte,reduceAdd,reduceMul,reduceEqDiff,Nat.reduceBEq,reduceLeDiff];rfl)|(simp (disch:=omega) only[go_sem,if_yes,if_no,↓reduceIte,reduceAdd,reduceMul,reduceEqDiff,Nat.reduceBEq,reduceLeDiff]))),(by (try (try simp only[go_sem,addc3]));repeat' (first|exact trivial|refine And.intro ?_ ?_|rfl|(simp (disch:=omega) only[go_sem,if_yes,if_no,↓reduceIte,reduceAdd,reduceMul,reduceEqDiff,Nat.reduceBEq,reduceLeDiff];rfl)|(simp (disch:=omega) only[go_sem,if_yes,if_no,↓reduceIte,reduceAdd,reduceMul,reduceEqDiff,Nat.reduceBEq,reduceLeDiff]))),rfl,HOld.tick (by simp only[go_sem];omega)⟩
    have hwn:=hS2.noL
    have hrk:=hrl.2 _ (lel_mem hk)
    have hpl:(catK (chG N m) a j).length+rest.length≤4096:=by
      have q:=hpj;rw [hcat,List.length_append,length_map] at q;exact q
    have htk:(rest.take (k+1)).map (((a+j:Nat):Int) :: ·)=(rest.take k).map (((a+j:Nat):Int) :: ·) ++ [((a+j:Nat):Int) :: lel rest k]:=by
      rw [List.take_succ_eq_append_getElem hk,List.map_append]
      simp [lel,List.getD_eq_getElem?_getD,hk]
    have hdl:(catK (chG N m) a j ++ (rest.take k).map (((a+j:Nat):Int) :: ·)).length≤4096:=by
      rw [List.length_append,length_map,List.length_take];omega
    generalize hdn:catK (chG N m) a j ++ (rest.take k).map (((a+j:Nat):Int) :: ·)=dn at *
    repeat' (first|refine st_seq_reg rfl (by first|(simp only[go_sem,length_map,Nat.zero_add,big,rowsN_len];rfl)|rfl) (by first|(simp only[go_sem,length_map,Nat.zero_add,big,rowsN_len];rfl)|rfl) ?_|refine st_reg rfl (by first|(simp only[go_sem,length_map,Nat.zero_add,big,rowsN_len];rfl)|rfl) (by first|(simp only[go_sem,length_map,Nat.zero_add,big,rowsN_len];rfl)|rfl) ?_|refine st_op ?_|refine st_det rfl (by simp (disch:=omega) only[go_sem,wr_i64,if_yes,if_no,↓reduceIte,reduceAdd,reduceMul,reduceEqDiff,Nat.reduceBEq,reduceLeDiff,length_map,Nat.zero_add,big,rowsN_len];rfl) ?_|refine st_heap rfl (by simp (disch:=omega) only[go_sem,wr_i64,if_yes,if_no,↓reduceIte,reduceAdd,reduceMul,reduceEqDiff,Nat.reduceBEq,reduceLeDiff,length_map,Nat.zero_add,big,rowsN_len];rfl) ?_|refine st_append (by simp (disch:=omega) only[go_sem,wr_i64,if_yes,if_no,↓reduceIte,reduceAdd,reduceMul,reduceEqDiff,Nat.reduceBEq,reduceLeDiff,length_map,Nat.zero_add,big,rowsN_len];rfl) ?_|(refine st_appS (by intro h id x y;simp only[go_sem];rfl) rfl (by simp only[go_sem,length_map,Nat.zero_add,big,rowsN_len];rfl) (by simp only[go_sem,length_map,Nat.zero_add,big,rowsN_len];rfl) (by decide) hS2 (fun b1 m e=>(by have q:=(hS2.lt e).2.1;exact (put_ne _ _ (ne_fst (n:=c2+1) (by omega) (Nat.le_refl _))).trans (put_ne _ _ (ne_fst (n:=c2+1) (by omega) (Nat.le_refl _))))) (by omega) (by simp only[length_map,List.length_cons,List.length_nil,big,length_map,Nat.zero_add,big,rowsN_len];omega) (by omega) (by omega) ?_;intro v' g' hA)|(refine st_condS rfl ?_ ?_ <;> intro hg <;> (try simp only[decide_eq_true_eq,decide_eq_false_iff_not,Bool.not_eq_true',Bool.not_eq_false'] at hg))|refine st_nil ?_|refine st_tN ?_|refine st_seq ?_|refine st_block ?_|refine st_skip ?_|refine st_exit ?_|refine st_tE ?_|refine st_bN ?_|refine st_bH ?_)
    all_goals try (exfalso;omega)
    have hRN:=fun (M:Nat) (hM:c2+2≤M)=>RowsN.add (N:=M) (bb:=(c2+1,39)) (row:=((a+j:Nat):Int) :: lel rest k) hA hR2 hS2 (fun b hb=>(put_ne _ _ (ne_fst (n:=c2+1) (by omega) (Nat.le_refl _))).trans (put_ne _ _ (ne_fst (n:=c2+1) (by omega) (Nat.le_refl _)))) (put_same _ _ _) (by show g2.clk≤c2+1;omega) (by show c2+1 < M;omega) (ne_snd (by decide)) (by omega) l4
    have hl1:(((a+j:Nat):Int) :: lel rest k).length=1+(lel rest k).length:=by rw [List.length_cons];omega
    have hnx:=rowsN_next (bs:=bs2) (bs':=fun q=>if q=dn.length then ((c2+1,39):Nat × Nat) else bs2 q) (t:=dn) (r:=((a+j:Nat):Int) :: lel rest k) (fun q hq=>if_neg (by omega))
    refine ⟨⟨k+1,v',_,fun q=>if q=dn.length then (c2+1,39) else bs2 q⟩,⟨by show k+1≤rest.length;omega,(by show I _ _ _ _;rw [htk,← List.append_assoc,hdn];exact ⟨fun b' hb'=>((hA.old b' hb').trans ((put_ne _ _ (ne_fst hb' (by show h.clk≤c2+1;omega))).trans (put_ne _ _ (ne_fst hb' (by show h.clk≤c2+1;omega))))).trans (l2 b' hb'),hA.lp.trans l3,by simp only[go_sem];omega,by rw [hnx,if_pos rfl,hl1];exact hA.sl.to (fun _ _ _ _ _=>rfl) (by simp only[go_sem];omega),hRN _ (by omega)⟩)⟩,by show rest.length - (k+1) < rest.length - k;omega,(by repeat' (first|exact trivial|refine And.intro ?_ ?_|rfl|(simp (disch:=omega) only[go_sem,if_yes,if_no,↓reduceIte,reduceAdd,reduceMul,reduceEqDiff,Nat.reduceBEq,reduceLeDiff];rfl)|(simp (disch:=omega) only[go_sem,if_yes,if_no,↓reduceIte,reduceAdd,reduceMul,reduceEqDiff,Nat.reduceBEq,reduceLeDiff]))),(by repeat' (first|exact trivial|refine And.intro ?_ ?_|rfl|(simp (disch:=omega) only[go_sem,if_yes,if_no,↓reduceIte,reduceAdd,reduceMul,reduceEqDiff,Nat.reduceBEq,reduceLeDiff];rfl)|(simp (disch:=omega) only[go_sem,if_yes,if_no,↓reduceIte,reduceAdd,reduceMul,reduceEqDiff,Nat.reduceBEq,reduceLeDiff]))),rfl,HOld.refl _⟩
theorem chs_ok {t:Tw} {n:Nat}:∀ (m a:Nat) (x:List Int),x ∈ chs n m a→x.length=m∧(∀ i,i < x.length→(a:Int)≤elt x i∧elt x i < n)∧∀ i,0 < i→i < x.length→elt x (i - 1) < elt x i
  | 0,a,x,hx=>by
    have:x=[]:=by simpa [chs] using hx
    subst this
    exact ⟨rfl,fun i hi=>absurd hi (Nat.not_lt_zero _),fun i _ hi=>absurd hi (Nat.not_lt_zero _)⟩
  | m+1,a,x,hx=>by
    have key:∀ k,a+k≤n ∨ k=0→x ∈ catK (chG n m) a k→∃ j y,a≤j∧j < n∧x=((j:Nat):Int) :: y∧y ∈ chs n m (j+1):=by
      intro k
      induction k with
      | zero=>intro _ h;cases h
      | succ k ih =>
        intro hk h
        rcases List.mem_append.1 (show x ∈ catK (chG n m) a k ++ chG n m (a+k) from h) with h|h
        · exact ih (by omega) h
        · unfold chG at h
          obtain ⟨y,hy,rfl⟩:=List.mem_map.1 h
          exact ⟨a+k,y,by omega,by omega,rfl,hy⟩
    obtain ⟨j,y,h1,h2,rfl,h3⟩:=key (n - a) (by omega) hx
    obtain ⟨q1,q2,q3⟩:=chs_ok (t:=t) m (j+1) y h3
    have e0:elt (((j:Nat):Int) :: y) 0=j:=rfl
    have es:∀ i,elt (((j:Nat):Int) :: y) (i+1)=elt y i:=fun i=>rfl
    refine ⟨by simp [q1],fun i hi=>?_,fun i h0 hi=>?_⟩
    · cases i with
      | zero=>rw [e0];omega
      | succ i=>rw [es];have:=q2 i (by simpa using hi);omega
    · obtain ⟨i,rfl⟩:∃ i',i=i'+1:=⟨i - 1,by omega⟩
      rw [Nat.add_sub_cancel,es]
      cases i with
      | zero=>rw [e0];have:=q2 0 (by simpa using hi);omega
      | succ i=>rw [es];have:=q3 (i+1) (by omega) (by simpa using hi);simpa using this
end Go.Proofs.Ythjbfdfhblloiaa

namespace Go.Proofs.Ythjbfdfhblloiaa
open Go.Av
set_option maxRecDepth 20000
structure GpLe (a b:Gp):Prop where
  stay:a.stay=b.stay
  first:a.first=b.first
  path:a.path=b.path
  lo:b.lo≤a.lo
  lh:a.lo≤a.hi
  hi:a.hi≤b.hi
  alo:b.alo≤a.alo
  mid:a.alo≤a.ahi
  ahi:a.ahi≤b.ahi
structure TwLe (u t:Tw):Prop where
  sts:u.sts=t.sts
  steps:u.steps=t.steps
  rl:u.rooms.length=t.rooms.length
  room:∀ i,i < t.rooms.length→elt t.rooms i≤elt u.rooms i
  gl:u.gs.length=t.gs.length
  g:∀ i,i < t.gs.length→GpLe (gp u.gs i) (gp t.gs i)
theorem wlk_congr {u t:Tw} (h:u.sts=t.sts) (s:Nat→Int):∀ (p:List Int) (k:Nat) (q:Int),wlk u s p k q=wlk t s p k q
  | [],_,_=>rfl
  | _ :: _,0,_=>rfl
  | p :: ps,k+1,q=>by
    show (if s p.toNat=0 then -2 else if s p.toNat=2 then q else wlk u s ps k (oth (sx u.sts p.toNat) q))=(if s p.toNat=0 then -2 else if s p.toNat=2 then q else wlk t s ps k (oth (sx t.sts p.toNat) q))
    rw [wlk_congr h s ps k,h]
theorem plc_congr {u t:Tw} (h:u.sts=t.sts) (s:Nat→Int) {a b:Gp} (k:GpLe a b) (c st:Int):plc u s a c st=plc t s b c st:=by
  unfold plc;rw [wlk_congr h,k.stay,k.first,k.path]
theorem TwLe.ldHi {u t:Tw} (h:TwLe u t) (h0:∀ i,i < t.gs.length→0≤(gp t.gs i).hi) (s:Nat→Int) (q st:Int):Go.Proofs.Ythjbfdfhblloiaa.ldHi u s q st≤Go.Proofs.Ythjbfdfhblloiaa.ldHi t s q st:=by
  unfold Go.Proofs.Ythjbfdfhblloiaa.ldHi
  rw [h.gl]
  refine sumF_le fun i hi=>?_
  have k:=h.g i hi
  unfold hiF
  by_cases e:someB u s (gp u.gs i) q st=true
  · obtain ⟨c,h1,h2,h3⟩:=someB_iff.1 e
    have e2:someB t s (gp t.gs i) q st=true:=someB_iff.2 ⟨c,by have:=k.alo;omega,by have:=k.ahi;omega,by rw [← plc_congr h.sts s k];exact h3⟩
    rw [if_pos e,if_pos e2];exact k.hi
  · rw [if_neg e]
    split
    · exact h0 i hi
    · exact Int.le_refl _
theorem TwLe.ldLo {u t:Tw} (h:TwLe u t) (h0:∀ i,i < t.gs.length→0≤(gp t.gs i).lo) (s:Nat→Int) (q st:Int):Go.Proofs.Ythjbfdfhblloiaa.ldLo t s q st≤Go.Proofs.Ythjbfdfhblloiaa.ldLo u s q st:=by
  unfold Go.Proofs.Ythjbfdfhblloiaa.ldLo
  rw [h.gl]
  refine sumF_le fun i hi=>?_
  have k:=h.g i hi
  have h00:=h0 i hi
  have hl:=k.lo
  unfold loF
  by_cases e:allB t s (gp t.gs i) q st=true
  · have e2:allB u s (gp u.gs i) q st=true:=allB_iff.2 fun c h1 h2=>by
      rw [plc_congr h.sts s k]
      exact allB_iff.1 e c (by have:=k.alo;omega) (by have:=k.ahi;omega)
    rw [if_pos e,if_pos e2];exact k.lo
  · rw [if_neg e]
    split <;> omega
theorem catN_nil {α:Type} {g:Nat→List α}:∀ {n:Nat},catN g n=[] ↔ ∀ i,i < n→g i=[]
  | 0=>⟨fun _ i hi=>absurd hi (Nat.not_lt_zero _),fun _=>rfl⟩
  | n+1=>by
    show catN g n ++ g n=[] ↔ _
    rw [List.append_eq_nil_iff,catN_nil]
    constructor
    · rintro ⟨h1,h2⟩ i hi
      by_cases e:i=n
      · rw [e];exact h2
      · exact h1 i (by omega)
    · intro h
      exact ⟨fun i hi=>h i (by omega),h n (by omega)⟩
theorem mem_catN {α:Type} {g:Nat→List α} {x:α}:∀ {n:Nat},x ∈ catN g n ↔ ∃ i,i < n∧x ∈ g i
  | 0=>⟨fun h=>(by cases h),fun ⟨i,hi,_⟩=>absurd hi (Nat.not_lt_zero _)⟩
  | n+1=>by
    show x ∈ catN g n ++ g n ↔ _
    rw [List.mem_append,mem_catN]
    constructor
    · rintro (⟨i,h1,h2⟩|h)
      · exact ⟨i,by omega,h2⟩
      · exact ⟨n,by omega,h⟩
    · rintro ⟨i,h1,h2⟩
      by_cases e:i=n
      · rw [e] at h2;exact .inr h2
      · exact .inl ⟨i,by omega,h2⟩
theorem okB_iff {t:Tw} {l:List Int}:okB t l=true ↔ ∀ st q:Nat,st < (t.steps+1).toNat→q < t.rooms.length→Go.Proofs.Ythjbfdfhblloiaa.ldHi t (cls l) (q:Nat) (st:Nat)≤elt t.rooms q:=by
  unfold okB
  rw [List.isEmpty_iff]
  unfold crL
  rw [catN_nil]
  constructor
  · intro h st q h1 h2
    have:=catN_nil.1 (h st h1) q h2
    unfold crF at this
    by_cases e:elt t.rooms q < Go.Proofs.Ythjbfdfhblloiaa.ldHi t (cls l) (q:Nat) (st:Nat)
    · rw [if_pos e] at this;cases this
    · omega
  · intro h st h1
    refine catN_nil.2 fun q h2=>?_
    unfold crF
    rw [if_neg (by have:=h st q h1 h2;omega)]
theorem TwLe.okB {u t:Tw} (h:TwLe u t) (h0:∀ i,i < t.gs.length→0≤(gp t.gs i).hi) {l:List Int} (k:Go.Proofs.Ythjbfdfhblloiaa.okB t l=true):Go.Proofs.Ythjbfdfhblloiaa.okB u l=true:=by
  rw [okB_iff] at k ⊢
  intro st q h1 h2
  rw [h.steps] at h1;rw [h.rl] at h2
  have e1:=k st q h1 h2
  have e2:=h.ldHi h0 (cls l) (q:Nat) (st:Nat)
  have e3:=h.room q h2
  omega
theorem TwLe.clo {u t:Tw} (h:TwLe u t) (h0:∀ i,i < t.gs.length→0≤(gp t.gs i).hi) {A:List Int} (k:Go.Proofs.Ythjbfdfhblloiaa.clo t t.sts.length=some A):∃ B,Go.Proofs.Ythjbfdfhblloiaa.clo u u.sts.length=some B∧B.length≤A.length:=by
  rw [h.sts]
  unfold Go.Proofs.Ythjbfdfhblloiaa.clo chsAll at *
  rw [h.sts,Nat.min_self]
  rw [Nat.min_self] at k
  obtain ⟨m,hm,hA⟩:=mem_catN.1 (List.mem_of_find?_eq_some k)
  have hAl:=(chs_ok (t:=t) m 0 A hA).1
  have hp:(crL u (cls A)).isEmpty=true:=h.okB h0 (l:=A) (List.find?_some k)
  have hin:A ∈ catN (fun m=>chs t.sts.length m 0) (m+1):=mem_catN.2 ⟨m,by omega,hA⟩
  cases e:(catN (fun m=>chs t.sts.length m 0) (m+1)).find? fun l=>(crL u (cls l)).isEmpty with
  | none=>exact absurd hp (by rw [List.find?_eq_none] at e;exact e A hin)
  | some B =>
    refine ⟨B,catN_fpre e (by omega),?_⟩
    obtain ⟨j,hj,hB⟩:=mem_catN.1 (List.mem_of_find?_eq_some e)
    have:=(chs_ok (t:=t) j 0 B hB).1
    omega
theorem TwLe.ok {u t:Tw} (h:TwLe u t) (hT:TwOk t) (hr:∀ i,i < t.rooms.length→elt u.rooms i≤1000000):TwOk u:=by
  have e1:=h.rl
  refine ⟨by rw [e1];exact hT.r0,by rw [e1];exact hT.rn,fun i hi=>?_,by rw [h.sts];exact hT.sn,fun i hi=>?_,by rw [h.steps];exact hT.steps,by rw [h.gl];exact hT.gn,fun i hi=>?_⟩
  · rw [e1] at hi
    have a:=hT.room i hi;have b:=h.room i hi;have c:=hr i hi
    omega
  · rw [h.sts] at hi
    have:=hT.st i hi
    rw [h.sts,e1];exact this
  · rw [h.gl] at hi
    have k:=h.g i hi
    have a:=hT.g i hi
    have a1:=a.size;have a2:=a.at_;have k1:=k.lo;have k2:=k.hi;have k3:=k.alo;have k4:=k.ahi;have k5:=k.lh;have k6:=k.mid
    refine ⟨by omega,by omega,by rw [k.stay];exact a.stay,by rw [k.first,e1];exact a.first,by rw [k.path];exact a.many,fun j hj=>?_,fun j hj=>?_⟩
    · rw [k.path] at hj ⊢;rw [h.sts];exact a.st j hj
    · rw [k.path] at hj ⊢;rw [k.first,wayN_congr h.sts];exact a.way j hj
theorem TwLe.refl {t:Tw} (hT:TwOk t):TwLe t t :=
  ⟨rfl,rfl,rfl,fun _ _=>Int.le_refl _,rfl,fun i hi=>by
    have a:=hT.g i hi
    have a1:=a.size;have a2:=a.at_
    exact ⟨rfl,rfl,rfl,Int.le_refl _,a1.2.1,Int.le_refl _,Int.le_refl _,a2.2.1,Int.le_refl _⟩⟩
theorem catK_mem {g:Nat→List (List Int)} {a:Nat} {x:List Int}:∀ {n j:Nat},j < n→x ∈ g (a+j)→x ∈ catK g a n
  | 0,_,h,_=>absurd h (Nat.not_lt_zero _)
  | n+1,j,h,hx=>by
    show x ∈ catK g a n ++ g (a+n)
    rw [List.mem_append]
    by_cases e:j=n
    · rw [← e];exact .inr hx
    · exact .inl (catK_mem (by omega) hx)
theorem chs_in (n:Nat):∀ (m a:Nat) (x:List Int),x.length=m→x.Pairwise (· < ·)→(∀ y,y ∈ x→(a:Int)≤y∧y < n)→x ∈ chs n m a
  | 0,a,x,h,_,_=>by
    have:x=[]:=List.eq_nil_of_length_eq_zero h
    subst this
    show [] ∈ [[]];simp
  | m+1,a,[],h,_,_=>by cases h
  | m+1,a,y :: r,h,hp,hb=>by
    obtain ⟨hp1,hp2⟩:=List.pairwise_cons.1 hp
    have hy:=hb y (by simp)
    obtain ⟨j,rfl⟩:∃ j:Nat,y=j:=⟨y.toNat,by omega⟩
    have ih:=chs_in n m (j+1) r (by simpa using h) hp2 (fun z hz=>⟨by have:=hp1 z hz;omega,(hb z (by simp [hz])).2⟩)
    show _ ∈ catK (fun i=>(chs n m (i+1)).map (((i:Nat):Int) :: ·)) a (n - a)
    refine catK_mem (j:=j - a) (by omega) ?_
    rw [show a+(j - a)=j by omega]
    exact List.mem_map.2 ⟨r,ih,rfl⟩
def shutL (s:List Int) (n:Nat):List Int:=((List.range n).filter fun i=>decide (elt s i=2)).map fun i=>((i:Nat):Int)
theorem shutL_len (s:List Int):∀ n,((shutL s n).length:Int)=sumF (fun i=>if elt s i=2 then 1 else 0) n
  | 0=>rfl
  | n+1=>by
    have ih:=shutL_len s n
    unfold shutL at *
    rw [List.range_succ,List.filter_append,List.map_append,List.length_append]
    show _=sumF _ n+(if elt s n=2 then 1 else 0)
    rw [← ih]
    by_cases e:elt s n=2
    · rw [if_pos e];simp [e]
    · rw [if_neg e];simp [e]
theorem shutL_mem {s:List Int} {n:Nat} {x:Int}:x ∈ shutL s n ↔ ∃ i:Nat,i < n∧elt s i=2∧x=(i:Nat):=by
  unfold shutL
  rw [List.mem_map]
  constructor
  · rintro ⟨i,h,rfl⟩
    rw [List.mem_filter,List.mem_range,decide_eq_true_eq] at h
    exact ⟨i,h.1,h.2,rfl⟩
  · rintro ⟨i,h1,h2,rfl⟩
    exact ⟨i,by rw [List.mem_filter,List.mem_range,decide_eq_true_eq];exact ⟨h1,h2⟩,rfl⟩
theorem shutL_pw (s:List Int) (n:Nat):(shutL s n).Pairwise (· < ·):=by
  unfold shutL
  rw [List.pairwise_map]
  exact (List.Pairwise.filter _ List.pairwise_lt_range).imp fun h=>Int.ofNat_lt.2 h
theorem shutL_cls {s:List Int} {n i:Nat} (hi:i < n) (hv:elt s i=1 ∨ elt s i=2):cls (shutL s n) i=elt s i:=by
  unfold cls
  rcases hv with e|e
  · rw [if_neg,e]
    rw [List.contains_iff_mem,shutL_mem]
    rintro ⟨j,_,h2,h3⟩
    have:j=i:=by omega
    rw [this,e] at h2;exact absurd h2 (by decide)
  · rw [if_pos,e]
    rw [List.contains_iff_mem,shutL_mem]
    exact ⟨i,hi,e,rfl⟩
theorem sumF_ext {F G:Nat→Int}:∀ {n:Nat},(∀ i,i < n→F i=G i)→sumF F n=sumF G n
  | 0,_=>rfl
  | n+1,h=>by
    show sumF F n+F n=sumF G n+G n
    rw [sumF_ext (n:=n) fun i hi=>h i (by omega),h n (by omega)]
theorem catN_ext {α:Type} {f g:Nat→List α}:∀ {n:Nat},(∀ i,i < n→f i=g i)→catN f n=catN g n
  | 0,_=>rfl
  | n+1,h=>by
    show catN f n ++ f n=catN g n ++ g n
    rw [catN_ext (n:=n) fun i hi=>h i (by omega),h n (by omega)]
theorem ldHi_ext {t:Tw} (hT:TwOk t) {f g:Nat→Int} (h:∀ j,j < t.sts.length→f j=g j) (q st:Int):ldHi t f q st=ldHi t g q st:=by
  unfold ldHi
  refine sumF_ext fun i hi=>?_
  unfold hiF someB
  simp only[plc_ext h (hT.g i hi)]
theorem crL_ext {t:Tw} (hT:TwOk t) {f g:Nat→Int} (h:∀ j,j < t.sts.length→f j=g j):crL t f=crL t g:=by
  unfold crL
  refine catN_ext fun st _=>?_
  unfold crS
  refine catN_ext fun q _=>?_
  unfold crF
  rw [ldHi_ext hT h]
theorem clo_none {t:Tw} (hT:TwOk t) {M:Nat} (hc:clo t M=none) {s:List Int} (hl:s.length=t.sts.length) (hv:∀ i,i < t.sts.length→elt s i=1 ∨ elt s i=2) (hm:¬ (M:Int) < shN s):crL t (elt s) ≠ []:=by
  intro he
  rw [← crL_ext hT (f:=cls (shutL s t.sts.length)) fun j hj=>shutL_cls hj (hv j hj)] at he
  have hlen:=shutL_len s t.sts.length
  have hsh:shN s=sumF (fun i=>if elt s i=2 then 1 else 0) t.sts.length:=by unfold shN;rw [hl]
  rw [← hsh] at hlen
  have hle:(shutL s t.sts.length).length≤t.sts.length:=by
    unfold shutL
    rw [length_map]
    exact Nat.le_trans (List.length_filter_le _ _) (by rw [List.length_range];exact Nat.le_refl _)
  have hin:=chs_in t.sts.length _ 0 (shutL s t.sts.length) rfl (shutL_pw _ _) (fun y hy=>by
    obtain ⟨i,h1,_,rfl⟩:=shutL_mem.1 hy
    omega)
  unfold clo at hc
  rw [List.find?_eq_none] at hc
  refine hc _ (mem_catN.2 ⟨_,?_,hin⟩) (by rw [he];rfl)
  omega
end Go.Proofs.Ythjbfdfhblloiaa
