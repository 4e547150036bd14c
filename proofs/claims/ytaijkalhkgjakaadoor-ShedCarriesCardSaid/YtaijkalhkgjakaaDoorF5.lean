/- Contracts of functions that the claim reaches: what each call gives, told in our own logic. Conditions: those of each theorem. -/
import Derived.Test.YtaijkalhkgjakaaDoorG16
import Derived.Test.YtaijkalhkgjakaaDoorP2
open Nat (reduceAdd reduceMul reduceEqDiff reduceLeDiff)
set_option linter.all false
set_option linter.unusedSimpArgs false
set_option linter.unusedVariables false
namespace Go.Proofs.YtaijkalhkgjakaaDoor
open Go.Av
attribute [local irreducible] thenA blockA awp awpOps awpD awp1
set_option maxHeartbeats 8000000
set_option maxRecDepth 20000
def DB (l:List Int):Prop:=l.length=7∧∀ i,0≤l.getD i 0∧l.getD i 0≤3000
theorem DB.next {S:Sp} (hS:S.Ok) {x y:Dr} (h:Rt S x) (hd:DB x.day) (hy:y ∈ nextD S x):DB y.day:=by
  obtain ⟨job,i,hj,hi,hs⟩:=mem_nextD.1 hy
  obtain ⟨_,_,_,rfl⟩:=nextAt_some hs
  have b:=h.bd hS
  have h7:=hS.n7
  have hh:=b.h i
  have hf:=b.f (jOf S.js job).f.toNat
  refine ⟨by simp [withD,hd.1],fun k=>?_⟩
  have e:=ixF_set (l:=x.day) (i:=job) (by rw [hd.1];omega) (max (x.hands.getD i 0) (x.fls.getD (jOf S.js job).f.toNat 0))
  have e2:=congrFun e k
  show 0≤ixF (x.day.set job _) k∧ixF (x.day.set job _) k≤3000
  rw [e2]
  by_cases q:k=job
  · rw [q,upd_same];omega
  · rw [upd_ne _ _ q];exact hd.2 k
theorem tryD_DB {S:Sp} (hS:S.Ok):∀ (f:Nat) (x:Dr) (st:List Int × Int),Rt S x→DB x.day→DB st.1→DB (tryD S f x st).1:=by
  intro f
  induction f with
  | zero=>intro x st _ _ h;exact h
  | succ f ih =>
    intro x st hx hd hs
    simp only[tryD]
    split
    · exact hs
    · split
      · exact hd
      · have:∀ (l:List Dr) (st:List Int × Int),(∀ y ∈ l,y ∈ nextD S x)→DB st.1→DB (l.foldl (fun st y=>tryD S f y st) st).1:=by
          intro l
          induction l with
          | nil=>intro st _ h;exact h
          | cons y l ihl =>
            intro st hl h
            have hy:=hl y (by simp)
            exact ihl _ (fun z hz=>hl z (by simp [hz])) (ih y st (hx.next hS hy) (DB.next hS hx hd hy) h)
        exact this _ st (fun _ h=>h) hs
theorem DB.zero:DB (List.replicate 7 0):=⟨rfl,fun i=>by
  rw [List.getD_eq_getElem?_getD,List.getElem?_replicate]
  split <;> simp⟩
theorem earD_DB {S:Sp} (hS:S.Ok):DB (earD S).1:=tryD_DB hS _ _ _ (Rt.start S) DB.zero DB.zero
def bestV (S:Sp):AV:=if (bndV S).2 ≠ 0 then .tup [.nils,.int .i64 0,.int .i64 (bndV S).2] else .tup [.lst 2 ((bestD S).1.map Sf.row),.int .i64 (bestD S).2,.int .i64 0]
theorem best_eq (S:Sp):bestD S=(stfP S (earD S).1,(earD S).2):=rfl
theorem bnd_ok {S:Sp} (h:(bndV S).2=0):S.Ok∧lackD S=false:=by
  unfold bndV at h
  split at h
  · rename_i q;exact absurd h q
  · rename_i q
    split at h
    · exact absurd h (by decide)
    · rename_i q2
      exact ⟨shop_ok (Decidable.of_not_not q),by simpa using q2⟩
theorem c17 (S:Sp):PureG gB Tryd.prog 17 [S.av] (fun v=>v=bestV S):=by
  intro h hgl
  refine ACalls.forget (ACalls.of tab mixed Tryd.call17 Tryd.func17 rfl (fi:=⟨25,[7],[1],none,[]⟩) rfl rfl (Nat.le_of_ble_eq_true rfl) (by decide) ?_)
  unfold startA
  try simp only[go_sem]
  by_cases hb:(bndV S).2=0
  · have hS:=(bnd_ok hb).1
    have hD:=earD_DB hS
    repeat' (first|refine st_seq_reg rfl (by first|(simp only[go_sem,aC_take,hb];rfl)|rfl) (by first|(simp only[go_sem,aC_take,hb];rfl)|rfl) ?_|refine st_op ?_|refine st_det rfl (by simp (disch:=omega) only[go_sem,wr_i64,if_yes,if_no,↓reduceIte,reduceAdd,reduceMul,reduceEqDiff,Nat.reduceBEq,reduceLeDiff,aC_take,hb];rfl) ?_|refine st_loc rfl (by simp (disch:=omega) only[go_sem,wr_i64,if_yes,if_no,↓reduceIte,reduceAdd,reduceMul,reduceEqDiff,Nat.reduceBEq,reduceLeDiff,aC_take,hb];rfl) ?_|refine st_store (by simp (disch:=omega) only[go_sem,wr_i64,if_yes,if_no,↓reduceIte,reduceAdd,reduceMul,reduceEqDiff,Nat.reduceBEq,reduceLeDiff,aC_take,hb];rfl) ?_|(refine st_pureGE (by first|(simp (disch:=omega) only[go_sem,aC_take,hb];rfl)|rfl) rfl (c49 S) (by exact hgl) (by first|(simp only[go_sem,aC_take,hb];rfl)|rfl) (by intro n;first|(simp (disch:=omega) only[go_sem];rfl)|rfl) ?_;intro n hn)|(refine st_pureGE (by first|(simp (disch:=omega) only[go_sem,aC_take,hb];rfl)|rfl) rfl (c60 S hS) (by exact hgl) (by first|(simp only[go_sem,aC_take,hb];rfl)|rfl) (by intro n;first|(simp (disch:=omega) only[go_sem];rfl)|rfl) ?_;intro n hn)|(refine st_pureGE (by first|(simp (disch:=omega) only[go_sem,aC_take,hb];rfl)|rfl) rfl (c61 S hS (earD S).1 hD.1 hD.2) (by exact hgl) (by first|(simp only[go_sem,aC_take,hb];rfl)|rfl) (by intro n;first|(simp (disch:=omega) only[go_sem];rfl)|rfl) ?_;intro n hn)|refine st_condF rfl ?_|refine st_nil ?_|refine st_tN ?_|refine st_seq ?_|refine st_skip ?_|refine st_ret ?_)
    all_goals try (exfalso;omega)
    simp (disch:=omega) only[AEnd,Tryd.results17,aresK,fin,go_sem,↓reduceIte,reduceEqDiff,reduceAdd,reduceLeDiff,if_yes,if_no,implies_true,true_and,and_true,List.reverse_cons,List.reverse_nil]
    unfold bestV;rw [if_neg (fun q=>q hb),best_eq]
  · repeat' (first|refine st_seq_reg rfl (by first|(simp only[go_sem];rfl)|rfl) (by first|(simp only[go_sem];rfl)|rfl) ?_|refine st_op ?_|refine st_det rfl (by simp (disch:=omega) only[go_sem,wr_i64,if_yes,if_no,↓reduceIte,reduceAdd,reduceMul,reduceEqDiff,Nat.reduceBEq,reduceLeDiff];rfl) ?_|(refine st_pureGE (by first|(simp (disch:=omega) only[go_sem];rfl)|rfl) rfl (c49 S) (by exact hgl) (by first|(simp only[go_sem];rfl)|rfl) (by intro n;first|(simp (disch:=omega) only[go_sem];rfl)|rfl) ?_;intro n hn)|(refine st_condS rfl ?_ ?_ <;> intro hg <;> (try simp only[decide_eq_true_eq,decide_eq_false_iff_not,Bool.not_eq_true',Bool.not_eq_false'] at hg))|refine st_nil ?_|refine st_tN ?_|refine st_seq ?_|refine st_skip ?_|refine st_ret ?_|refine st_tR ?_)
    all_goals try (exfalso;omega)
    simp (disch:=omega) only[AEnd,Tryd.results17,aresK,fin,go_sem,↓reduceIte,reduceEqDiff,reduceAdd,reduceLeDiff,if_yes,if_no,implies_true,true_and,and_true,List.reverse_cons,List.reverse_nil]
    unfold bestV;rw [if_pos hb]
def hurdlesE:List Hu→Int
  | []=>0
  | x :: l=>if hurdleE x ≠ 0 then hurdleE x else hurdlesE l
def routeE (l:List Hu):Int:=if (l.length:Int) > 40 then 5 else hurdlesE l
theorem c66 (r:List Hu):Pure Tryd.prog 66 [.lst 3 (r.map Hu.row)] (fun v=>v=.int .i64 (routeE r)):=by
  intro h
  refine ACalls.forget (ACalls.of tab mixed Tryd.call66 Tryd.func66 rfl (fi:=⟨21,[4],[],none,[]⟩) rfl rfl (Nat.le_of_ble_eq_true rfl) (by decide) ?_)
  unfold startA
  try simp only[go_sem]
  repeat' (first|refine st_seq_reg rfl (by first|(simp only[go_sem];rfl)|rfl) (by first|(simp only[go_sem];rfl)|rfl) ?_|refine st_op ?_|refine st_det rfl (by simp (disch:=omega) only[go_sem,wr_i64,if_yes,if_no,↓reduceIte,reduceAdd,reduceMul,reduceEqDiff,Nat.reduceBEq,reduceLeDiff];rfl) ?_|(refine st_condS rfl ?_ ?_ <;> intro hg <;> (try simp only[decide_eq_true_eq,decide_eq_false_iff_not,Bool.not_eq_true',Bool.not_eq_false'] at hg))|refine st_nil ?_|refine st_tN ?_|refine st_seq ?_|refine st_block ?_|refine st_skip ?_|refine st_ret ?_|refine st_tR ?_)
  · simp (disch:=omega) only[AEnd,Tryd.results66,aresK,fin,go_sem,↓reduceIte,reduceEqDiff,reduceAdd,reduceLeDiff,if_yes,if_no,implies_true,true_and,and_true,List.reverse_cons,List.reverse_nil]
    simp [routeE] <;> omega
  refine st_loopC (α:=Nat) tab mixed [] [] (by repeat (first|exact trivial|refine ⟨rfl,?_⟩)) [] [] (by repeat (first|exact trivial|refine ⟨rfl,?_⟩)) (fun i=>[(11,.int .i64 i)]) [(0,_),(2,_),(9,_),(10,_)] (fun _=>[]) [] (fun i=>i≤r.length∧hurdlesE (r.drop i)=hurdlesE r) (fun i=>r.length - i) (by decide) 0 ⟨by omega,rfl⟩ (by (try simp only[go_sem]);repeat' (first|exact trivial|refine And.intro ?_ ?_|rfl|(simp (disch:=omega) only[go_sem,if_yes,if_no,↓reduceIte,reduceAdd,reduceMul,reduceEqDiff,Nat.reduceBEq,reduceLeDiff];rfl)|(simp (disch:=omega) only[go_sem,if_yes,if_no,↓reduceIte,reduceAdd,reduceMul,reduceEqDiff,Nat.reduceBEq,reduceLeDiff]))) (by (try simp only[go_sem]);repeat' (first|exact trivial|refine And.intro ?_ ?_|rfl|(simp (disch:=omega) only[go_sem,if_yes,if_no,↓reduceIte,reduceAdd,reduceMul,reduceEqDiff,Nat.reduceBEq,reduceLeDiff];rfl)|(simp (disch:=omega) only[go_sem,if_yes,if_no,↓reduceIte,reduceAdd,reduceMul,reduceEqDiff,Nat.reduceBEq,reduceLeDiff]))) (by first|(simp only[go_sem];rfl)|rfl) (by intro n;simp only[go_sem];rfl) ?_
  rintro i c ⟨hi',hall⟩ hc
  simp only[go_sem]
  repeat' (first|refine st_seq_reg rfl (by first|(simp only[go_sem];rfl)|rfl) (by first|(simp only[go_sem];rfl)|rfl) ?_|refine st_reg rfl (by first|(simp only[go_sem];rfl)|rfl) (by first|(simp only[go_sem];rfl)|rfl) ?_|refine st_op ?_|refine st_det rfl (by simp (disch:=omega) only[go_sem,wr_i64,if_yes,if_no,↓reduceIte,reduceAdd,reduceMul,reduceEqDiff,Nat.reduceBEq,reduceLeDiff];rfl) ?_|refine st_loc rfl (by simp (disch:=omega) only[go_sem,wr_i64,if_yes,if_no,↓reduceIte,reduceAdd,reduceMul,reduceEqDiff,Nat.reduceBEq,reduceLeDiff];rfl) ?_|refine st_store (by simp (disch:=omega) only[go_sem,wr_i64,if_yes,if_no,↓reduceIte,reduceAdd,reduceMul,reduceEqDiff,Nat.reduceBEq,reduceLeDiff];rfl) ?_|(refine st_pureE (by first|(simp (disch:=omega) only[go_sem];rfl)|rfl) rfl (c105 (hu r i)) (by first|(simp only[go_sem];rfl)|rfl) (by intro n;first|(simp (disch:=omega) only[go_sem];rfl)|rfl) ?_;intro n hn)|(refine st_condS rfl ?_ ?_ <;> intro hg <;> (try simp only[decide_eq_true_eq,decide_eq_false_iff_not,Bool.not_eq_true',Bool.not_eq_false'] at hg))|refine st_nil ?_|refine st_tN ?_|refine st_seq ?_|refine st_block ?_|refine st_skip ?_|refine st_exit ?_|refine st_ret ?_|refine st_tE ?_|refine st_tR ?_|refine st_bN ?_|refine st_bR ?_|refine st_bH ?_)
  · simp (disch:=omega) only[AEnd,Tryd.results66,aresK,fin,go_sem,↓reduceIte,reduceEqDiff,reduceAdd,reduceLeDiff,if_yes,if_no,implies_true,true_and,and_true,List.reverse_cons,List.reverse_nil]
    rw [drop_hu (by omega)] at hall
    rw [hurdlesE,if_pos (by assumption)] at hall
    simp [routeE] <;> omega
  · refine ⟨i+1,⟨by omega,by rw [drop_hu (by omega),hurdlesE,if_neg (by assumption)] at hall;exact hall⟩,by omega,(by repeat' (first|exact trivial|refine And.intro ?_ ?_|rfl|(simp (disch:=omega) only[go_sem,if_yes,if_no,↓reduceIte,reduceAdd,reduceMul,reduceEqDiff,Nat.reduceBEq,reduceLeDiff];rfl)|(simp (disch:=omega) only[go_sem,if_yes,if_no,↓reduceIte,reduceAdd,reduceMul,reduceEqDiff,Nat.reduceBEq,reduceLeDiff]))),(by repeat' (first|exact trivial|refine And.intro ?_ ?_|rfl|(simp (disch:=omega) only[go_sem,if_yes,if_no,↓reduceIte,reduceAdd,reduceMul,reduceEqDiff,Nat.reduceBEq,reduceLeDiff];rfl)|(simp (disch:=omega) only[go_sem,if_yes,if_no,↓reduceIte,reduceAdd,reduceMul,reduceEqDiff,Nat.reduceBEq,reduceLeDiff]))),rfl,(by first|exact HOld.of _ (by omega)|exact HOld.put _ _ _ (by omega))⟩
  · simp (disch:=omega) only[AEnd,Tryd.results66,aresK,fin,go_sem,↓reduceIte,reduceEqDiff,reduceAdd,reduceLeDiff,if_yes,if_no,implies_true,true_and,and_true,List.reverse_cons,List.reverse_nil]
    rw [List.drop_eq_nil_of_le (by omega),hurdlesE] at hall
    simp [routeE] <;> omega
theorem c136 (es:List Int) (hl:(es.length:Int) < 1000000) (hb:∀ i≤es.length,-4611686018427387904≤(es.take i).sum∧(es.take i).sum≤4611686018427387904):Pure Tryd.prog 136 [.lst 1 (es.map iv)] (fun v=>v=.int .i64 es.sum):=by
  intro h
  refine ACalls.forget (ACalls.of tab mixed Tryd.call136 Tryd.func136 rfl (fi:=⟨17,[],[],none,[]⟩) rfl rfl (Nat.le_of_ble_eq_true rfl) (by decide) ?_)
  unfold startA
  repeat' (first|refine st_seq_reg rfl (by first|(simp only[go_sem];rfl)|rfl) (by first|(simp only[go_sem];rfl)|rfl) ?_|refine st_op ?_|refine st_det rfl (by simp (disch:=omega) only[go_sem,wr_i64,if_yes,if_no,↓reduceIte,reduceAdd,reduceMul,reduceEqDiff,Nat.reduceBEq,reduceLeDiff];rfl) ?_|refine st_nil ?_|refine st_seq ?_|refine st_block ?_)
  refine st_loopC (α:=Nat) tab mixed [] [] (by repeat (first|exact trivial|refine ⟨rfl,?_⟩)) [] [] (by repeat (first|exact trivial|refine ⟨rfl,?_⟩)) (fun i=>[(8,.int .i64 i),(3,.int .i64 (es.take i).sum)]) [(2,_),(6,_),(7,_)] (fun _=>[]) [] (fun i=>i≤es.length) (fun i=>es.length - i) (by decide) 0 (by omega) (by (try simp only[go_sem]);repeat' (first|exact trivial|refine And.intro ?_ ?_|rfl|(simp (disch:=omega) only[go_sem,if_yes,if_no,↓reduceIte,reduceAdd,reduceMul,reduceEqDiff,Nat.reduceBEq,reduceLeDiff];rfl)|(simp (disch:=omega) only[go_sem,if_yes,if_no,↓reduceIte,reduceAdd,reduceMul,reduceEqDiff,Nat.reduceBEq,reduceLeDiff]))) (by (try simp only[go_sem]);repeat' (first|exact trivial|refine And.intro ?_ ?_|rfl|(simp (disch:=omega) only[go_sem,if_yes,if_no,↓reduceIte,reduceAdd,reduceMul,reduceEqDiff,Nat.reduceBEq,reduceLeDiff];rfl)|(simp (disch:=omega) only[go_sem,if_yes,if_no,↓reduceIte,reduceAdd,reduceMul,reduceEqDiff,Nat.reduceBEq,reduceLeDiff]))) (by first|(simp only[go_sem];rfl)|rfl) (by intro n;simp only[go_sem];rfl) ?_
  rintro i c hi' hc
  simp only[go_sem]
  have e:i < es.length→(es.take (i+1)).sum=(es.take i).sum+es.getD i 0:=fun h=>by
    rw [List.take_succ_eq_append_getElem h,List.sum_append,List.getD_eq_getElem?_getD,List.getElem?_eq_getElem h];simp
  have b1:=hb i hi'
  have b2:i < es.length→_:=fun h=>hb (i+1) h
  repeat' (first|refine st_seq_reg rfl (by first|(simp only[go_sem];rfl)|rfl) (by first|(simp only[go_sem];rfl)|rfl) ?_|refine st_reg rfl (by first|(simp only[go_sem];rfl)|rfl) (by first|(simp only[go_sem];rfl)|rfl) ?_|refine st_op ?_|refine st_det rfl (by simp (disch:=omega) only[go_sem,wr_i64,if_yes,if_no,↓reduceIte,reduceAdd,reduceMul,reduceEqDiff,Nat.reduceBEq,reduceLeDiff];rfl) ?_|(refine st_condS rfl ?_ ?_ <;> intro hg <;> (try simp only[decide_eq_true_eq,decide_eq_false_iff_not,Bool.not_eq_true',Bool.not_eq_false'] at hg))|refine st_nil ?_|refine st_tN ?_|refine st_seq ?_|refine st_block ?_|refine st_skip ?_|refine st_exit ?_|refine st_ret ?_|refine st_tE ?_|refine st_bN ?_|refine st_bH ?_)
  · refine ⟨i+1,(by omega),by omega,(by (try (rw [e (by omega)]));repeat' (first|exact trivial|refine And.intro ?_ ?_|rfl|(simp (disch:=omega) only[go_sem,if_yes,if_no,↓reduceIte,reduceAdd,reduceMul,reduceEqDiff,Nat.reduceBEq,reduceLeDiff];rfl)|(simp (disch:=omega) only[go_sem,if_yes,if_no,↓reduceIte,reduceAdd,reduceMul,reduceEqDiff,Nat.reduceBEq,reduceLeDiff]))),(by (try (rw [e (by omega)]));repeat' (first|exact trivial|refine And.intro ?_ ?_|rfl|(simp (disch:=omega) only[go_sem,if_yes,if_no,↓reduceIte,reduceAdd,reduceMul,reduceEqDiff,Nat.reduceBEq,reduceLeDiff];rfl)|(simp (disch:=omega) only[go_sem,if_yes,if_no,↓reduceIte,reduceAdd,reduceMul,reduceEqDiff,Nat.reduceBEq,reduceLeDiff]))),rfl,(by first|exact HOld.of _ (by omega)|exact HOld.put _ _ _ (by omega))⟩
  · rw [List.take_of_length_le (by omega)]
    simp (disch:=omega) only[AEnd,Tryd.results136,aresK,fin,go_sem,↓reduceIte,reduceEqDiff,reduceAdd,reduceLeDiff,if_yes,if_no,implies_true,true_and,and_true,List.reverse_cons,List.reverse_nil]
theorem sum2 (a b:Int) (ha:-2305843009213693952≤a∧a≤2305843009213693952) (hb:-2305843009213693952≤b∧b≤2305843009213693952):Pure Tryd.prog 136 [.lst 1 [[.int .i64 a],[.int .i64 b]]] (fun v=>v=.int .i64 (a+b)):=by
  have h:=c136 [a,b] (by simp) (by
    intro i hi
    rcases i with _|_|_|i
    · simp
    · simp;omega
    · simp;omega
    · simp at hi)
  simpa [iv] using h
def wl (arm:Int→Int) (s:Int) (l:List Ld):Int:=s+(l.map fun x=>x.lo * arm x.at_).sum
def wh (arm:Int→Int) (s:Int) (l:List Ld):Int:=s+(l.map fun x=>x.hi * arm x.at_).sum
def LdOk (x:Ld):Prop:=0≤x.at_∧x.at_≤3000∧0≤x.lo∧x.lo≤x.hi∧x.hi≤100000
structure FlOk (f:Fl):Prop where
  len:1≤f.len∧f.len≤3000
  wid:1≤f.wid∧f.wid≤1000
  axles:0≤f.front∧f.front < f.rear∧f.rear≤f.len
  turn:0≤f.turn∧f.turn≤20000
  kilos:0≤f.kilos∧f.kilos≤100000
  mid:0≤f.mid∧f.mid≤f.len
  high:0≤f.high∧f.high≤2000
  loads:f.loads.length≤30∧∀ x ∈ f.loads,LdOk x
theorem ld_mem {l:List Ld} {i:Nat} (h:i < l.length):ld l i ∈ l:=by
  unfold ld;rw [List.getD_eq_getElem?_getD,List.getElem?_eq_getElem h];exact List.getElem_mem h
theorem hu_mem {l:List Hu} {i:Nat} (h:i < l.length):hu l i ∈ l:=by
  unfold hu;rw [List.getD_eq_getElem?_getD,List.getElem?_eq_getElem h];exact List.getElem_mem h
theorem mul_bd {k x K A:Int} (hk:0≤k∧k≤K) (hx:-A≤x∧x≤A):-(K * A)≤k * x∧k * x≤K * A:=by
  have hA:0≤A:=by omega
  have h1:=Int.mul_le_mul_of_nonneg_left hx.2 hk.1
  have h2:=Int.mul_le_mul_of_nonneg_left hx.1 hk.1
  have h3:=Int.mul_le_mul_of_nonneg_right hk.2 hA
  rw [Int.mul_neg] at h2
  omega
theorem c138 (a:Int):Pure Tryd.prog 138 [.int .i64 a] (fun v=>v=.int .i64 1):=by
  intro h
  refine ACalls.forget (ACalls.of tab mixed Tryd.call138 Tryd.func138 rfl (fi:=⟨3,[],[],none,[]⟩) rfl rfl (Nat.le_of_ble_eq_true rfl) (by decide) ?_)
  unfold startA
  repeat' (first|refine st_seq_reg rfl (by first|(simp only[go_sem];rfl)|rfl) (by first|(simp only[go_sem];rfl)|rfl) ?_|refine st_op ?_|refine st_det rfl (by simp (disch:=omega) only[go_sem,wr_i64,if_yes,if_no,↓reduceIte,reduceAdd,reduceMul,reduceEqDiff,Nat.reduceBEq,reduceLeDiff];rfl) ?_|refine st_nil ?_|refine st_ret ?_)
  simp (disch:=omega) only[AEnd,Tryd.results138,aresK,fin,go_sem,↓reduceIte,reduceEqDiff,reduceAdd,reduceLeDiff,if_yes,if_no,implies_true,true_and,and_true,List.reverse_cons,List.reverse_nil]
theorem c129 (f:Fl) (p m a:Int) (ha:0≤a∧a≤3000) (hf:0≤f.rear∧f.rear≤3000):Pure Tryd.prog 129 [.int .i64 a,.iptr (Tk.av f p m).cells 0] (fun v=>v=.int .i64 (f.rear - a)):=by
  intro h
  refine ACalls.forget (ACalls.of tab mixed Tryd.call129 Tryd.func129 rfl (fi:=⟨9,[],[],none,[]⟩) rfl rfl (Nat.le_of_ble_eq_true rfl) (by decide) ?_)
  unfold startA
  simp only[go_sem]
  repeat' (first|refine st_seq_reg rfl (by first|(simp only[go_sem];rfl)|rfl) (by first|(simp only[go_sem];rfl)|rfl) ?_|refine st_op ?_|refine st_det rfl (by simp (disch:=omega) only[go_sem,wr_i64,if_yes,if_no,↓reduceIte,reduceAdd,reduceMul,reduceEqDiff,Nat.reduceBEq,reduceLeDiff];rfl) ?_|refine st_nil ?_|refine st_ret ?_)
  simp (disch:=omega) only[AEnd,Tryd.results129,aresK,fin,go_sem,↓reduceIte,reduceEqDiff,reduceAdd,reduceLeDiff,if_yes,if_no,implies_true,true_and,and_true,List.reverse_cons,List.reverse_nil]
theorem c130 (f:Fl) (p m a:Int) (ha:0≤a∧a≤3000) (hf:0≤f.front∧f.front≤3000):Pure Tryd.prog 130 [.int .i64 a,.iptr (Tk.av f p m).cells 0] (fun v=>v=.int .i64 (a - f.front)):=by
  intro h
  refine ACalls.forget (ACalls.of tab mixed Tryd.call130 Tryd.func130 rfl (fi:=⟨9,[],[],none,[]⟩) rfl rfl (Nat.le_of_ble_eq_true rfl) (by decide) ?_)
  unfold startA
  simp only[go_sem]
  repeat' (first|refine st_seq_reg rfl (by first|(simp only[go_sem];rfl)|rfl) (by first|(simp only[go_sem];rfl)|rfl) ?_|refine st_op ?_|refine st_det rfl (by simp (disch:=omega) only[go_sem,wr_i64,if_yes,if_no,↓reduceIte,reduceAdd,reduceMul,reduceEqDiff,Nat.reduceBEq,reduceLeDiff];rfl) ?_|refine st_nil ?_|refine st_ret ?_)
  simp (disch:=omega) only[AEnd,Tryd.results130,aresK,fin,go_sem,↓reduceIte,reduceEqDiff,reduceAdd,reduceLeDiff,if_yes,if_no,implies_true,true_and,and_true,List.reverse_cons,List.reverse_nil]
theorem c135 (f:Fl) (p m:Int) (hf:FlOk f):Pure Tryd.prog 135 [Tk.av f p m] (fun v=>v=.int .i64 (f.rear - f.front)):=by
  have:=hf.len;have:=hf.axles
  intro h
  refine ACalls.forget (ACalls.of tab mixed Tryd.call135 Tryd.func135 rfl (fi:=⟨10,[],[1],none,[]⟩) rfl rfl (Nat.le_of_ble_eq_true rfl) (by decide) ?_)
  unfold startA
  simp only[go_sem]
  repeat' (first|refine st_seq_reg rfl (by first|(simp only[go_sem];rfl)|rfl) (by first|(simp only[go_sem];rfl)|rfl) ?_|refine st_op ?_|refine st_det rfl (by simp (disch:=omega) only[go_sem,wr_i64,if_yes,if_no,↓reduceIte,reduceAdd,reduceMul,reduceEqDiff,Nat.reduceBEq,reduceLeDiff];rfl) ?_|refine st_nil ?_|refine st_ret ?_)
  simp (disch:=omega) only[AEnd,Tryd.results135,aresK,fin,go_sem,↓reduceIte,reduceEqDiff,reduceAdd,reduceLeDiff,if_yes,if_no,implies_true,true_and,and_true,List.reverse_cons,List.reverse_nil]
theorem c125 (a b:Bool):Pure Tryd.prog 125 [.bool a,.bool b] (fun v=>v=.int .i64 (if a then 1 else if b then 3 else 2)):=by
  intro h
  refine ACalls.forget (ACalls.of tab mixed Tryd.call125 Tryd.func125 rfl (fi:=⟨9,[],[],none,[]⟩) rfl rfl (Nat.le_of_ble_eq_true rfl) (by decide) ?_)
  unfold startA
  repeat' (first|refine st_seq_reg rfl (by first|(simp only[go_sem];rfl)|rfl) (by first|(simp only[go_sem];rfl)|rfl) ?_|refine st_op ?_|refine st_det rfl (by simp (disch:=omega) only[go_sem,wr_i64,if_yes,if_no,↓reduceIte,reduceAdd,reduceMul,reduceEqDiff,Nat.reduceBEq,reduceLeDiff];rfl) ?_|(refine st_condS rfl ?_ ?_ <;> intro hg <;> (try simp only[decide_eq_true_eq,decide_eq_false_iff_not,Bool.not_eq_true',Bool.not_eq_false'] at hg))|refine st_nil ?_|refine st_tN ?_|refine st_seq ?_|refine st_block ?_|refine st_skip ?_|refine st_ret ?_|refine st_tR ?_|refine st_bN ?_|refine st_bR ?_)
  all_goals
    simp (disch:=omega) only[AEnd,Tryd.results125,aresK,fin,go_sem,↓reduceIte,reduceEqDiff,reduceAdd,reduceLeDiff,if_yes,if_no,implies_true,true_and,and_true,List.reverse_cons,List.reverse_nil]
    all_goals simp [*]
theorem take_ld {α:Type} {l:List α} {i:Nat} (d:α) (h:i < l.length) (f:α→Int):((l.take (i+1)).map f).sum=((l.take i).map f).sum+f (l.getD i d):=by
  rw [List.take_succ_eq_append_getElem h,List.map_append,List.sum_append,List.getD_eq_getElem?_getD,List.getElem?_eq_getElem h];simp
@[go_sem] theorem wl_nil (arm:Int→Int) (s:Int):wl arm s []=s:=by simp [wl]
@[go_sem] theorem wh_nil (arm:Int→Int) (s:Int):wh arm s []=s:=by simp [wh]
theorem wl_step {arm:Int→Int} {s:Int} {l:List Ld} {i:Nat} (h:i < l.length):wl arm s (l.take (i+1))=wl arm s (l.take i)+(ld l i).lo * arm (ld l i).at_:=by
  unfold wl;rw [take_ld ⟨0,0,0,0,0,0,0⟩ h];unfold ld;omega
theorem wh_step {arm:Int→Int} {s:Int} {l:List Ld} {i:Nat} (h:i < l.length):wh arm s (l.take (i+1))=wh arm s (l.take i)+(ld l i).hi * arm (ld l i).at_:=by
  unfold wh;rw [take_ld ⟨0,0,0,0,0,0,0⟩ h];unfold ld;omega
theorem w_bd {arm:Int→Int} {s:Int} {l:List Ld} (hl:∀ x ∈ l,LdOk x) (hb:∀ a,0≤a→a≤3000→-3000≤arm a∧arm a≤3000):∀ i≤l.length,
    (s - 300000000 * i≤wl arm s (l.take i)∧wl arm s (l.take i)≤s+300000000 * i)∧(s - 300000000 * i≤wh arm s (l.take i)∧wh arm s (l.take i)≤s+300000000 * i):=by
  intro i
  induction i with
  | zero=>intro _;simp [wl,wh]
  | succ i ih =>
    intro hi
    have h0:=ih (by omega)
    rw [wl_step (by omega),wh_step (by omega)]
    have hx:=hl _ (ld_mem (l:=l) (i:=i) (by omega))
    unfold LdOk at hx
    have:=hb _ hx.1 hx.2.1
    have h1:=mul_bd (k:=(ld l i).lo) (K:=100000) (A:=3000) (by omega) this
    have h2:=mul_bd (k:=(ld l i).hi) (K:=100000) (A:=3000) (by omega) this
    omega
theorem c128 (f:Fl) (p m:Int) (g:FuncId) (cap:List AV) (arm:Int→Int) (hf:FlOk f) (hp:0≤p∧p≤3000) (hm:0≤m∧m≤100000)
    (ha:∀ a,0≤a→a≤3000→Pure Tryd.prog g (([] ++ [.int .i64 a]) ++ cap) (fun v=>v=.int .i64 (arm a))) (hb:∀ a,0≤a→a≤3000→-3000≤arm a∧arm a≤3000) :
    Pure Tryd.prog 128 [Tk.av f p m,.fn (.func g) [] cap] (fun v=>v=.agg [.int .i64 (wl arm (f.kilos * arm f.mid+m * arm p) f.loads),.int .i64 (wh arm (f.kilos * arm f.mid+m * arm p) f.loads)]):=by
  have h1:=hf.len;have h2:=hf.mid;have h3:=hf.kilos;have h4:=hf.loads.1
  have m1:=mul_bd h3 (hb f.mid (by omega) (by omega))
  have m2:=mul_bd hm (hb p (by omega) (by omega))
  have wb:=fun i hi=>w_bd (s:=f.kilos * arm f.mid+m * arm p) hf.loads.2 hb i hi
  have e1:∀ i,i < f.loads.length→_:=fun i h=>wl_step (arm:=arm) (s:=f.kilos * arm f.mid+m * arm p) h
  have e2:∀ i,i < f.loads.length→_:=fun i h=>wh_step (arm:=arm) (s:=f.kilos * arm f.mid+m * arm p) h
  intro h
  refine ACalls.forget (ACalls.of tab mixed Tryd.call128 Tryd.func128 rfl (fi:=⟨65,[4,6,8],[2,25,48,60],none,[(1,[0,1,3,0,0,16,48,120,255,0,512,0,0,4096,14584,32504,65535,131071,262143],[(0,false),(1,false),(2,true),(3,false),(4,false),(5,false),(6,true),(9,false),(10,true),(11,false),(12,false),(13,true),(7,false),(8,false),(14,false),(15,false),(16,false),(17,false),(18,false)]),(6,[0,1,0,4,12,0,0,64,224,508,1023,2047,0,4096,0,16384,49152,0,0,262144,921599,2084863,4194303,8388607,16777215,33554431],[(0,false),(1,true),(2,false),(3,false),(4,true),(5,false),(6,false),(7,true),(12,false),(13,true),(14,false),(15,false),(16,true),(17,false),(18,false),(19,true),(8,false),(9,false),(10,false),(11,false),(20,false),(21,false),(22,false),(23,false),(24,false),(25,false)])]⟩) rfl rfl (Nat.le_of_ble_eq_true rfl) (by decide) ?_)
  unfold startA
  simp only[go_sem]
  repeat' (first|refine st_seq_reg rfl (by first|(simp only[go_sem];rfl)|rfl) (by first|(simp only[go_sem];rfl)|rfl) ?_|refine st_seq_draw rfl (by first|(simp only[go_sem];rfl)|rfl) (by first|(simp only[go_sem];rfl)|rfl) ?_|refine st_op ?_|refine st_det rfl (by simp (disch:=omega) only[go_sem,wr_i64,if_yes,if_no,↓reduceIte,reduceAdd,reduceMul,reduceEqDiff,Nat.reduceBEq,reduceLeDiff];rfl) ?_|refine st_dop rfl ?_|refine st_loc rfl (by simp (disch:=omega) only[go_sem,wr_i64,if_yes,if_no,↓reduceIte,reduceAdd,reduceMul,reduceEqDiff,Nat.reduceBEq,reduceLeDiff];rfl) ?_|refine st_store (by simp (disch:=omega) only[go_sem,wr_i64,if_yes,if_no,↓reduceIte,reduceAdd,reduceMul,reduceEqDiff,Nat.reduceBEq,reduceLeDiff];rfl) ?_|(refine st_pureV (by first|(simp only[go_sem];rfl)|rfl) (by first|(simp (disch:=omega) only[go_sem];rfl)|rfl) rfl (ha _ (by omega) (by omega)) (by first|(simp only[go_sem];rfl)|rfl) (by intro n;first|(simp (disch:=omega) only[go_sem];rfl)|rfl) ?_;intro v n hv hn;subst hv)|(refine st_pureE (by first|(simp (disch:=omega) only[go_sem];rfl)|rfl) rfl (sum2 _ _ (by omega) (by omega)) (by first|(simp only[go_sem];rfl)|rfl) (by intro n;first|(simp (disch:=omega) only[go_sem];rfl)|rfl) ?_;intro n hn)|refine st_nil ?_|refine st_dnil ?_|refine st_seq ?_|refine st_block ?_)
  refine st_loopC (α:=Nat) tab mixed [6] [_] (by repeat (first|exact trivial|refine ⟨rfl,?_⟩)) [4] [_] (by repeat (first|exact trivial|refine ⟨rfl,?_⟩)) (fun i=>[(34,.int .i64 i)]) [(1,_),(2,_),(4,_),(6,_),(32,_),(33,_)] (fun i=>[[.int .i64 (wl arm (f.kilos * arm f.mid+m * arm p) (f.loads.take i)),.int .i64 (wh arm (f.kilos * arm f.mid+m * arm p) (f.loads.take i))]]) [_] (fun i=>i≤f.loads.length) (fun i=>f.loads.length - i) (by decide) 0 (by omega) (by (try simp only[go_sem]);repeat' (first|exact trivial|refine And.intro ?_ ?_|rfl|(simp (disch:=omega) only[go_sem,if_yes,if_no,↓reduceIte,reduceAdd,reduceMul,reduceEqDiff,Nat.reduceBEq,reduceLeDiff];rfl)|(simp (disch:=omega) only[go_sem,if_yes,if_no,↓reduceIte,reduceAdd,reduceMul,reduceEqDiff,Nat.reduceBEq,reduceLeDiff]))) (by (try simp only[go_sem]);repeat' (first|exact trivial|refine And.intro ?_ ?_|rfl|(simp (disch:=omega) only[go_sem,if_yes,if_no,↓reduceIte,reduceAdd,reduceMul,reduceEqDiff,Nat.reduceBEq,reduceLeDiff];rfl)|(simp (disch:=omega) only[go_sem,if_yes,if_no,↓reduceIte,reduceAdd,reduceMul,reduceEqDiff,Nat.reduceBEq,reduceLeDiff]))) (by first|(simp only[go_sem];rfl)|rfl) (by intro n;simp only[go_sem];rfl) ?_
  rintro i c hi' hc
  simp only[go_sem]
  have w1:=wb i hi'
  have hx:i < f.loads.length→LdOk (ld f.loads i):=fun h=>hf.loads.2 _ (ld_mem h)
  have w2:i < f.loads.length→_:=fun h=>mul_bd (k:=(ld f.loads i).lo) (K:=100000) ⟨(hx h).2.2.1,by have:=hx h;unfold LdOk at this;omega⟩ (hb (ld f.loads i).at_ (hx h).1 (hx h).2.1)
  have w3:i < f.loads.length→_:=fun h=>mul_bd (k:=(ld f.loads i).hi) (K:=100000) ⟨(by have:=hx h;unfold LdOk at this;omega),(hx h).2.2.2.2⟩ (hb (ld f.loads i).at_ (hx h).1 (hx h).2.1)
  have w4:i < f.loads.length→0≤(ld f.loads i).at_∧(ld f.loads i).at_≤3000:=fun h=>⟨(hx h).1,(hx h).2.1⟩
  repeat' (first|refine st_seq_reg rfl (by first|(simp only[go_sem];rfl)|rfl) (by first|(simp only[go_sem];rfl)|rfl) ?_|refine st_reg rfl (by first|(simp only[go_sem];rfl)|rfl) (by first|(simp only[go_sem];rfl)|rfl) ?_|refine st_draw rfl (by first|(simp only[go_sem];rfl)|rfl) (by first|(simp only[go_sem];rfl)|rfl) ?_|refine st_op ?_|refine st_det rfl (by simp (disch:=omega) only[go_sem,wr_i64,if_yes,if_no,↓reduceIte,reduceAdd,reduceMul,reduceEqDiff,Nat.reduceBEq,reduceLeDiff];rfl) ?_|refine st_dop rfl ?_|refine st_loc rfl (by simp (disch:=omega) only[go_sem,wr_i64,if_yes,if_no,↓reduceIte,reduceAdd,reduceMul,reduceEqDiff,Nat.reduceBEq,reduceLeDiff];rfl) ?_|refine st_store (by simp (disch:=omega) only[go_sem,wr_i64,if_yes,if_no,↓reduceIte,reduceAdd,reduceMul,reduceEqDiff,Nat.reduceBEq,reduceLeDiff];rfl) ?_|(refine st_pureV (by first|(simp only[go_sem];rfl)|rfl) (by first|(simp (disch:=omega) only[go_sem];rfl)|rfl) rfl (ha _ (by omega) (by omega)) (by first|(simp only[go_sem];rfl)|rfl) (by intro n;first|(simp (disch:=omega) only[go_sem];rfl)|rfl) ?_;intro v n hv hn;subst hv)|(refine st_pureE (by first|(simp (disch:=omega) only[go_sem];rfl)|rfl) rfl (sum2 _ _ (by omega) (by omega)) (by first|(simp only[go_sem];rfl)|rfl) (by intro n;first|(simp (disch:=omega) only[go_sem];rfl)|rfl) ?_;intro n hn)|(refine st_condS rfl ?_ ?_ <;> intro hg <;> (try simp only[decide_eq_true_eq,decide_eq_false_iff_not,Bool.not_eq_true',Bool.not_eq_false'] at hg))|refine st_nil ?_|refine st_dnil ?_|refine st_tN ?_|refine st_seq ?_|refine st_block ?_|refine st_skip ?_|refine st_exit ?_|refine st_ret ?_|refine st_tE ?_|refine st_bN ?_|refine st_bH ?_)
  · refine ⟨i+1,(by omega),by omega,(by (try (rw [e1 i (by omega),e2 i (by omega)]));repeat' (first|exact trivial|refine And.intro ?_ ?_|rfl|(simp (disch:=omega) only[go_sem,if_yes,if_no,↓reduceIte,reduceAdd,reduceMul,reduceEqDiff,Nat.reduceBEq,reduceLeDiff];rfl)|(simp (disch:=omega) only[go_sem,if_yes,if_no,↓reduceIte,reduceAdd,reduceMul,reduceEqDiff,Nat.reduceBEq,reduceLeDiff]))),(by (try (rw [e1 i (by omega),e2 i (by omega)]));repeat' (first|exact trivial|refine And.intro ?_ ?_|rfl|(simp (disch:=omega) only[go_sem,if_yes,if_no,↓reduceIte,reduceAdd,reduceMul,reduceEqDiff,Nat.reduceBEq,reduceLeDiff];rfl)|(simp (disch:=omega) only[go_sem,if_yes,if_no,↓reduceIte,reduceAdd,reduceMul,reduceEqDiff,Nat.reduceBEq,reduceLeDiff]))),rfl,(by first|exact HOld.of _ (by omega)|exact HOld.put _ _ _ (by omega))⟩
  · rw [List.take_of_length_le (by omega)]
    simp (disch:=omega) only[AEnd,Tryd.results128,aresK,fin,go_sem,↓reduceIte,reduceEqDiff,reduceAdd,reduceLeDiff,if_yes,if_no,implies_true,true_and,and_true,List.reverse_cons,List.reverse_nil]
end Go.Proofs.YtaijkalhkgjakaaDoor
