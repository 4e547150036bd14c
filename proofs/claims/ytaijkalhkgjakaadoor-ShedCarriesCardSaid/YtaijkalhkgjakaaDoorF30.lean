/- Contracts of functions that the claim reaches: what each call gives, told in our own logic. Conditions: those of each theorem. -/
import Derived.Test.YtaijkalhkgjakaaDoorF3
import Derived.Test.YtaijkalhkgjakaaDoorBaseC
import Derived.Test.YtaijkalhkgjakaaDoorP2
open Nat (reduceAdd reduceMul reduceEqDiff reduceLeDiff)
set_option linter.all false
set_option linter.unusedSimpArgs false
set_option linter.unusedVariables false
namespace Go.Proofs.YtaijkalhkgjakaaDoor
open Go.Av
attribute [local irreducible] thenA blockA awp awpOps awpD awp1
set_option maxHeartbeats 8000000
set_option maxRecDepth 20000
def turnsP (f:Fl) (x:Hu) (r:Int):Prop:=f.turn≤r∧2 * x.a≤2 * r - f.wid∧outR f r≤4 * x.b * x.b
instance (f:Fl) (x:Hu) (r:Int):Decidable (turnsP f x r):=by unfold turnsP;infer_instance
theorem c75 (f:Fl) (x:Hu) (r:Int) (hf:FlOk f) (ha:0≤x.a∧x.a≤20000) (hb:0≤x.b∧x.b≤20000) (hr:0≤r∧r≤50000):Pure Tryd.prog 75 [f.av,x.av,.int .i64 r] (fun v=>v=.bool (decide (turnsP f x r))):=by
  have h1:=hf.len;have h2:=hf.axles;have h3:=hf.wid;have h4:=hf.turn
  have s1:=sq_bd (a:=2 * r+f.wid) (A:=200000) (by omega)
  have s2:=sq_bd (a:=2 * max f.rear (f.len - f.rear)) (A:=200000) (by omega)
  have s3:=mul_bd (k:=4 * x.b) (x:=x.b) (K:=80000) (A:=20000) (by omega) (by omega)
  intro h
  refine ACalls.forget (ACalls.of tab mixed Tryd.call75 Tryd.func75 rfl (fi:=⟨54,[],[3,4],none,[]⟩) rfl rfl (Nat.le_of_ble_eq_true rfl) (by decide) ?_)
  unfold startA
  simp only[go_sem]
  repeat' (first|refine st_seq_reg rfl (by first|(simp only[go_sem];rfl)|rfl) (by first|(simp only[go_sem];rfl)|rfl) ?_|refine st_op ?_|refine st_det rfl (by simp (disch:=omega) only[go_sem,wr_i64,if_yes,if_no,↓reduceIte,reduceAdd,reduceMul,reduceEqDiff,Nat.reduceBEq,reduceLeDiff];rfl) ?_|refine st_gT rfl rfl rfl ?_|refine st_gF rfl rfl rfl ?_|(refine st_gS rfl rfl ?_ ?_ <;> intro hg <;> (try simp only[decide_eq_true_eq,decide_eq_false_iff_not,Bool.not_eq_true',Bool.not_eq_false'] at hg))|refine st_nil ?_|refine st_ret ?_)
  all_goals
    simp (disch:=omega) only[AEnd,Tryd.results75,aresK,fin,go_sem,↓reduceIte,reduceEqDiff,reduceAdd,reduceLeDiff,if_yes,if_no,implies_true,true_and,and_true,List.reverse_cons,List.reverse_nil]
    all_goals simp [turnsP,outR, *]
def bothE (f:Fl) (r:List Hu):Int:=if chkE f ≠ 0 then chkE f else routeE r
theorem c107 (f:Fl) (r:List Hu):Pure Tryd.prog 107 [f.av,.lst 3 (r.map Hu.row)] (fun v=>v=.int .i64 (bothE f r)):=by
  intro h
  refine ACalls.forget (ACalls.of tab mixed Tryd.call107 Tryd.func107 rfl (fi:=⟨13,[],[2],none,[]⟩) rfl rfl (Nat.le_of_ble_eq_true rfl) (by decide) ?_)
  unfold startA
  simp only[go_sem]
  repeat' (first|refine st_seq_reg rfl (by first|(simp only[go_sem];rfl)|rfl) (by first|(simp only[go_sem];rfl)|rfl) ?_|refine st_op ?_|refine st_det rfl (by simp (disch:=omega) only[go_sem,wr_i64,if_yes,if_no,↓reduceIte,reduceAdd,reduceMul,reduceEqDiff,Nat.reduceBEq,reduceLeDiff];rfl) ?_|(refine st_pureE (by first|(simp (disch:=omega) only[go_sem];rfl)|rfl) rfl (c25 f) (by first|(simp only[go_sem];rfl)|rfl) (by intro n;first|(simp (disch:=omega) only[go_sem];rfl)|rfl) ?_;intro n hn)|(refine st_pureE (by first|(simp (disch:=omega) only[go_sem];rfl)|rfl) rfl (c66 r) (by first|(simp only[go_sem];rfl)|rfl) (by intro n;first|(simp (disch:=omega) only[go_sem];rfl)|rfl) ?_;intro n hn)|(refine st_condS rfl ?_ ?_ <;> intro hg <;> (try simp only[decide_eq_true_eq,decide_eq_false_iff_not,Bool.not_eq_true',Bool.not_eq_false'] at hg))|refine st_nil ?_|refine st_tN ?_|refine st_seq ?_|refine st_skip ?_|refine st_ret ?_|refine st_tR ?_)
  all_goals
    simp (disch:=omega) only[AEnd,Tryd.results107,aresK,fin,go_sem,↓reduceIte,reduceEqDiff,reduceAdd,reduceLeDiff,if_yes,if_no,implies_true,true_and,and_true,List.reverse_cons,List.reverse_nil]
    all_goals simp [bothE, *]
theorem frz_hu (b:Bid) (k:Blk) (l:List Hu):frzss b k (l.map Hu.row)=l.map Hu.row:=by
  rw [frzss_map,List.map_map];rfl
theorem frz_ld (b:Bid) (k:Blk) (l:List Ld):frzss b k (l.map Ld.row)=l.map Ld.row:=by
  rw [frzss_map,List.map_map];rfl
theorem frz_iv (b:Bid) (k:Blk) (l:List Int):frzss b k (l.map iv)=l.map iv:=by
  rw [frzss_map,List.map_map];rfl
def vfn (f:Fl) (p m:Int) (r:List Hu):AV:=.fn (.func 127) [] [.iptr [.lst 3 (r.map Hu.row)] 0,.iptr [.fn (.func 126) [Tk.av f p m] []] 0]
theorem c108 (f:Fl) (p m:Int) (r:List Hu):Pure Tryd.prog 108 [Tk.av f p m,.lst 3 (r.map Hu.row)] (fun v=>v=vfn f p m r):=by
  refine Pure.give Tryd.call108 fun h hold=>?_
  refine ACalls.of tab mixed Tryd.call108 Tryd.func108 rfl (fi:=⟨9,[],[2,3],none,[]⟩) rfl rfl (Nat.le_of_ble_eq_true rfl) (by decide) ?_
  unfold startA
  simp only[go_sem]
  repeat' (first|refine st_seq_reg rfl (by first|(simp only[go_sem];rfl)|rfl) (by first|(simp only[go_sem];rfl)|rfl) ?_|refine st_op ?_|refine st_det rfl (by simp (disch:=omega) only[go_sem,wr_i64,if_yes,if_no,↓reduceIte,reduceAdd,reduceMul,reduceEqDiff,Nat.reduceBEq,reduceLeDiff];rfl) ?_|refine st_heap rfl (by simp (disch:=omega) only[go_sem,wr_i64,if_yes,if_no,↓reduceIte,reduceAdd,reduceMul,reduceEqDiff,Nat.reduceBEq,reduceLeDiff];rfl) ?_|refine st_store (by simp (disch:=omega) only[go_sem,wr_i64,if_yes,if_no,↓reduceIte,reduceAdd,reduceMul,reduceEqDiff,Nat.reduceBEq,reduceLeDiff];rfl) ?_|refine st_nil ?_|refine st_ret ?_)
  simp (disch:=omega) only[AEnd,Tryd.results108,aresK,fin,go_sem,↓reduceIte,reduceEqDiff,reduceAdd,reduceLeDiff,if_yes,if_no,implies_true,true_and,and_true,List.reverse_cons,List.reverse_nil]
  refine ⟨fun b' h1=>if_neg (fun e=>?_),.inr ⟨(h.clk+1,5),_,Nat.le_succ _,if_pos rfl,?_⟩⟩
  · rw [e] at h1;exact absurd h1 (Nat.not_lt.2 (Nat.le_succ _))
  · simp [frz,frzs,vfn,Tk.av,frz_hu,frz_ld]
theorem c127 (f:Fl) (p m:Int) (r:List Hu) (l:Nat) (hf:FlOk f) (hp:0≤p∧p≤3000) (hm:0≤m∧m≤100000) (hr:∀ x ∈ r,HuOk x) (hl:r.length≤1000) (I:Nat→AH→Prop) (D:AH→Prop) (hI:∀ i h n,I i h→h.clk≤n→I i (h.tick n))
    (hD:∀ h n,D h→h.clk≤n→D (h.tick n)) (hy:∀ i h,i < r.length→I i h→AYields Tryd.prog l [.int .i64 i,.int .i64 (pV f p m (hu r i))] h (fun v h'=>(v=.bool true∧I (i+1) h') ∨ (v=.bool false∧D h'))) (h:AH) (h0:I 0 h) :
    ACalls Tryd.prog 127 [.fn (.yield l) [] [],.iptr [.lst 3 (r.map Hu.row)] 0,.iptr [.fn (.func 126) [Tk.av f p m] []] 0] h (fun _ h'=>I r.length h' ∨ D h'):=by
  refine ACalls.of tab mixed Tryd.call127 Tryd.func127 rfl (fi:=⟨21,[5],[],none,[]⟩) rfl rfl (Nat.le_of_ble_eq_true rfl) (by decide) ?_
  unfold startA
  simp only[go_sem]
  repeat' (first|refine st_seq_reg rfl (by first|(simp only[go_sem];rfl)|rfl) (by first|(simp only[go_sem];rfl)|rfl) ?_|refine st_op ?_|refine st_det rfl (by simp (disch:=omega) only[go_sem,wr_i64,if_yes,if_no,↓reduceIte,reduceAdd,reduceMul,reduceEqDiff,Nat.reduceBEq,reduceLeDiff];rfl) ?_|refine st_nil ?_|refine st_block ?_)
  refine st_loopH (α:=Nat × AH) tab mixed [] [] (by repeat (first|exact trivial|refine ⟨rfl,?_⟩)) [] [] (by repeat (first|exact trivial|refine ⟨rfl,?_⟩)) (fun a=>[(8,.int .i64 a.1)]) [(0,_),(2,_),(6,_),(7,_)] (fun _=>[]) [] (fun a=>a.2) (fun a=>a.1≤r.length∧I a.1 a.2) (fun a=>r.length - a.1) (by decide) (0,h) ⟨by omega,h0⟩ (by (try simp only[go_sem]);repeat' (first|exact trivial|refine And.intro ?_ ?_|rfl|(simp (disch:=omega) only[go_sem,if_yes,if_no,↓reduceIte,reduceAdd,reduceMul,reduceEqDiff,Nat.reduceBEq,reduceLeDiff];rfl)|(simp (disch:=omega) only[go_sem,if_yes,if_no,↓reduceIte,reduceAdd,reduceMul,reduceEqDiff,Nat.reduceBEq,reduceLeDiff]))) (by (try simp only[go_sem]);repeat' (first|exact trivial|refine And.intro ?_ ?_|rfl|(simp (disch:=omega) only[go_sem,if_yes,if_no,↓reduceIte,reduceAdd,reduceMul,reduceEqDiff,Nat.reduceBEq,reduceLeDiff];rfl)|(simp (disch:=omega) only[go_sem,if_yes,if_no,↓reduceIte,reduceAdd,reduceMul,reduceEqDiff,Nat.reduceBEq,reduceLeDiff]))) (HOld.tick (by simp only[go_sem];omega)) ?_
  rintro ⟨i,g⟩ c ⟨hi',hi⟩ hc
  simp only[go_sem] at hc
  simp only[go_sem]
  repeat' (first|refine st_seq_reg rfl (by first|(simp only[go_sem];rfl)|rfl) (by first|(simp only[go_sem];rfl)|rfl) ?_|refine st_reg rfl (by first|(simp only[go_sem];rfl)|rfl) (by first|(simp only[go_sem];rfl)|rfl) ?_|refine st_op ?_|refine st_det rfl (by simp (disch:=omega) only[go_sem,wr_i64,if_yes,if_no,↓reduceIte,reduceAdd,reduceMul,reduceEqDiff,Nat.reduceBEq,reduceLeDiff];rfl) ?_|refine st_loc rfl (by simp (disch:=omega) only[go_sem,wr_i64,if_yes,if_no,↓reduceIte,reduceAdd,reduceMul,reduceEqDiff,Nat.reduceBEq,reduceLeDiff];rfl) ?_|refine st_store (by simp (disch:=omega) only[go_sem,wr_i64,if_yes,if_no,↓reduceIte,reduceAdd,reduceMul,reduceEqDiff,Nat.reduceBEq,reduceLeDiff];rfl) ?_|(refine st_pureV (by first|(simp only[go_sem];rfl)|rfl) (by first|(simp (disch:=omega) only[go_sem];rfl)|rfl) rfl (c126 f p m (hu r i) hf hp hm (hr _ (hu_mem (by omega)))) (by first|(simp only[go_sem];rfl)|rfl) (by intro n;first|(simp (disch:=omega) only[go_sem];rfl)|rfl) ?_;intro v n hv hn;subst hv)|(refine st_yield rfl (by first|(simp (disch:=omega) only[go_sem];rfl)|(simp (disch:=omega) only[go_sem])) rfl (hy i _ (by omega) (hI i g _ hi (by omega))) ?_;rintro v h' (⟨rfl,hi2⟩|⟨rfl,hd⟩))|refine st_condT rfl ?_|refine st_condF rfl ?_|(refine st_condS rfl ?_ ?_ <;> intro hg <;> (try simp only[decide_eq_true_eq,decide_eq_false_iff_not,Bool.not_eq_true',Bool.not_eq_false'] at hg))|refine st_nil ?_|refine st_tN ?_|refine st_seq ?_|refine st_block ?_|refine st_skip ?_|refine st_exit ?_|refine st_ret ?_|refine st_tE ?_|refine st_tR ?_|refine st_bN ?_|refine st_bR ?_|refine st_bH ?_)
  · refine ⟨(i+1,h'),⟨by omega,hi2⟩,by omega,(by repeat' (first|exact trivial|refine And.intro ?_ ?_|rfl|(simp (disch:=omega) only[go_sem,if_yes,if_no,↓reduceIte,reduceAdd,reduceMul,reduceEqDiff,Nat.reduceBEq,reduceLeDiff];rfl)|(simp (disch:=omega) only[go_sem,if_yes,if_no,↓reduceIte,reduceAdd,reduceMul,reduceEqDiff,Nat.reduceBEq,reduceLeDiff]))),(by repeat' (first|exact trivial|refine And.intro ?_ ?_|rfl|(simp (disch:=omega) only[go_sem,if_yes,if_no,↓reduceIte,reduceAdd,reduceMul,reduceEqDiff,Nat.reduceBEq,reduceLeDiff];rfl)|(simp (disch:=omega) only[go_sem,if_yes,if_no,↓reduceIte,reduceAdd,reduceMul,reduceEqDiff,Nat.reduceBEq,reduceLeDiff]))),rfl,HOld.tick (Nat.le_succ _)⟩
  · simp (disch:=omega) only[AEnd,Tryd.results127,aresK,fin,go_sem,↓reduceIte,reduceEqDiff,reduceAdd,reduceLeDiff,if_yes,if_no,implies_true,true_and,and_true,List.reverse_cons,List.reverse_nil]
    exact .inr (hD _ _ hd (by omega))
  · simp (disch:=omega) only[AEnd,Tryd.results127,aresK,fin,go_sem,↓reduceIte,reduceEqDiff,reduceAdd,reduceLeDiff,if_yes,if_no,implies_true,true_and,and_true,List.reverse_cons,List.reverse_nil]
    have e:i=r.length:=by omega
    subst e
    exact .inl (hI _ _ _ hi (by omega))
def pVs (f:Fl) (p m:Int) (r:List Hu):List Int:=r.map (pV f p m)
@[go_sem] theorem pVs_len (f:Fl) (p m:Int) (r:List Hu):(pVs f p m r).length=r.length:=by simp [pVs]
theorem routeOk {r:List Hu} (h:routeE r=0):∀ x ∈ r,HuOk x:=by
  have aux:∀ l:List Hu,hurdlesE l=0→∀ x ∈ l,HuOk x:=by
    intro l
    induction l with
    | nil=>intro _ x hx;cases hx
    | cons y l ih =>
      intro he x hx
      unfold hurdlesE at he
      split at he
      · omega
      · rename_i hy
        rcases List.mem_cons.1 hx with rfl|hx
        · have hy':hurdleE x=0:=by omega
          unfold hurdleE at hy'
          refine ⟨?_,?_,?_⟩ <;> (repeat' split at hy') <;> omega
        · exact ih he x hx
  unfold routeE at h
  split at h
  · omega
  · exact aux r h
theorem routeLen {r:List Hu} (h:routeE r=0):r.length≤40:=by
  unfold routeE at h
  split at h
  · omega
  · omega
theorem chkOk {f:Fl} (h:chkE f=0):FlOk f:=by
  have aux:∀ l:List Ld,loadsE f l=0→(0≤f.front∧f.rear≤3000)→∀ x ∈ l,LdOk x:=by
    intro l
    induction l with
    | nil=>intro _ _ x hx;cases hx
    | cons y l ih =>
      intro he hb x hx
      unfold loadsE at he
      split at he
      · omega
      · rename_i hy
        rcases List.mem_cons.1 hx with rfl|hx
        · have hy':loadE f x=0:=by omega
          unfold loadE spanE at hy'
          unfold LdOk
          (repeat' split at hy') <;> omega
        · exact ih he hb x hx
  unfold chkE at h
  (repeat' split at h) <;> try omega
  refine ⟨by omega,by omega,by omega,by omega,by omega,by omega,by omega,by omega,aux _ h (by omega)⟩
theorem wr_u64 (n:Int):isU64 (wr .u64 n):=by
  unfold isU64 wr IntKind.wrap
  simp only[IntKind.signed,IntKind.bits,Bool.false_and,Bool.false_eq_true,if_false]
  omega
theorem xor_u64 (a b:Int):isU64 (bitop .xor .u64 a b):=wr_u64 _
theorem st_u64 {P:Program} {tt:Nat→TI} {fi:FI} {k0:Nat} {K:AS→Prop} {T:Nat→AV} {B:Bid→Option (List AV)} {M:List Nat} {H:AH} {d:Tmp} {op:Op} {t:TypeId} {p:String} {a:Array Edge} {g:Option (Nat × Bool)} {v:Int} (hd:isDet ⟨some d,op,t,p,a,g⟩=true) (h:dres tt fi k0 ⟨some d,op,t,p,a,g⟩ ⟨T,B,M,H⟩=some (.int .u64 v,.none)) (hv:isU64 v) (hk:∀ y,isU64 y→K ⟨upd T d (.int .u64 y),B,M,H⟩) :
    awp1 P tt fi k0 ⟨some d,op,t,p,a,g⟩ ⟨T,B,M,H⟩ K:=st_det hd h (hk v hv)
theorem c59 (b:Nat × Nat):Drum Tryd.prog 59 [.ptr b 0 0] b (fun v=>∃ y,isU64 y∧v=.int .u64 y):=by
  refine Drum.of Tryd.call59 fun h x hx hu hold=>?_
  refine ACalls.of tab mixed Tryd.call59 Tryd.func59 rfl (fi:=⟨31,[],[],none,[]⟩) rfl rfl (Nat.le_of_ble_eq_true rfl) (by decide) ?_
  unfold startA
  simp only[dr] at hx ⊢
  repeat' (first|refine st_seq_reg rfl (by first|(simp only[go_sem,hx];rfl)|rfl) (by first|(simp only[go_sem,hx];rfl)|rfl) ?_|refine st_op ?_|(refine st_u64 rfl (by simp (disch:=omega) only[go_sem,wr_i64,if_yes,if_no,↓reduceIte,reduceAdd,reduceMul,reduceEqDiff,Nat.reduceBEq,reduceLeDiff,hx];rfl) (by first|exact wr_u64 _|exact xor_u64 _ _) ?_;intro y hy)|refine st_det rfl (by simp (disch:=omega) only[go_sem,wr_i64,if_yes,if_no,↓reduceIte,reduceAdd,reduceMul,reduceEqDiff,Nat.reduceBEq,reduceLeDiff,hx];rfl) ?_|refine st_store (by simp (disch:=omega) only[go_sem,wr_i64,if_yes,if_no,↓reduceIte,reduceAdd,reduceMul,reduceEqDiff,Nat.reduceBEq,reduceLeDiff,hx];rfl) ?_|refine st_nil ?_|refine st_ret ?_)
  simp (disch:=omega) only[AEnd,Tryd.results59,aresK,fin,go_sem,↓reduceIte,reduceEqDiff,reduceAdd,reduceLeDiff,if_yes,if_no,implies_true,true_and,and_true,List.reverse_cons,List.reverse_nil]
  exact ⟨fun b' _ hn=>if_neg hn,⟨_,rfl,by assumption⟩,⟨_,by assumption,rfl⟩⟩
theorem wr_u64i {n:Int} (h:0≤n∧n < 18446744073709551616):wr .u64 n=n:=by
  unfold wr IntKind.wrap
  simp only[IntKind.signed,IntKind.bits,Bool.false_and,Bool.false_eq_true,if_false]
  omega
theorem roll_bd {y n:Int} (hy:isU64 y) (hn:2≤n):0≤(shr .u64 y 1).tmod n∧(shr .u64 y 1).tmod n < n:=by
  have h:0≤shr .u64 y 1:=by
    unfold shr
    rw [Int.fdiv_eq_ediv_of_nonneg _ (by decide)]
    have:=hy.1
    exact Int.ediv_nonneg this (by decide)
  exact ⟨Int.tmod_nonneg _ h,Int.tmod_lt_of_pos _ (by omega)⟩
def Rolls (n:Int) (v:AV):Prop:=∃ r,v=.int .i64 r∧0≤r∧(r < n ∨ r=0)
theorem c39 (b:Nat × Nat) (N:Int) (hN:N≤1000000000):Drum Tryd.prog 39 [.ptr b 0 0,.int .i64 N] b (Rolls N):=by
  refine Drum.of Tryd.call39 fun h x hx hu hold=>?_
  refine ACalls.of tab mixed Tryd.call39 Tryd.func39 rfl (fi:=⟨14,[],[],none,[]⟩) rfl rfl (Nat.le_of_ble_eq_true rfl) (by decide) ?_
  unfold startA
  repeat' (first|refine st_seq_reg rfl (by first|(simp only[go_sem,hx,wr_u64i];rfl)|rfl) (by first|(simp only[go_sem,hx,wr_u64i];rfl)|rfl) ?_|refine st_op ?_|refine st_det rfl (by simp (disch:=omega) only[go_sem,wr_i64,if_yes,if_no,↓reduceIte,reduceAdd,reduceMul,reduceEqDiff,Nat.reduceBEq,reduceLeDiff,hx,wr_u64i];rfl) ?_|(refine st_drum (by first|(simp (disch:=omega) only[go_sem];rfl)|(simp (disch:=omega) only[go_sem])) rfl (c59 b) (by simp (disch:=omega) only[go_sem];exact hx) hu (by first|(simp only[go_sem];rfl)|rfl) (by intro x' n;simp (disch:=omega) only[go_sem];rfl) ?_;rintro v x' n hu' ⟨y,hy,rfl⟩ hn;have hr:=roll_bd hy (by omega:2≤N))|(refine st_condS rfl ?_ ?_ <;> intro hg <;> (try simp only[decide_eq_true_eq,decide_eq_false_iff_not,Bool.not_eq_true',Bool.not_eq_false'] at hg))|refine st_nil ?_|refine st_tN ?_|refine st_seq ?_|refine st_skip ?_|refine st_ret ?_|refine st_tR ?_)
  · simp (disch:=omega) only[AEnd,Tryd.results39,aresK,fin,go_sem,↓reduceIte,reduceEqDiff,reduceAdd,reduceLeDiff,if_yes,if_no,implies_true,true_and,and_true,List.reverse_cons,List.reverse_nil]
    exact ⟨⟨x,hx,hu⟩,⟨0,rfl,by omega,by omega⟩⟩
  · simp (disch:=omega) only[AEnd,Tryd.results39,aresK,fin,go_sem,↓reduceIte,reduceEqDiff,reduceAdd,reduceLeDiff,if_yes,if_no,implies_true,true_and,and_true,List.reverse_cons,List.reverse_nil]
    exact ⟨fun b' _ h2=>if_neg h2,⟨_,rfl,hu'⟩,⟨_,rfl,by omega,by omega⟩⟩
theorem c40 (b:Nat × Nat) (lo hi:Int) (h1:-1000000000≤lo∧lo≤1000000000) (h2:lo - 1≤hi∧hi - lo < 1000000000):Drum Tryd.prog 40 [.ptr b 0 0,.int .i64 lo,.int .i64 hi] b (fun v=>∃ r,v=.int .i64 r∧lo≤r∧(r≤hi ∨ r=lo)):=by
  refine Drum.of Tryd.call40 fun h x hx hu hold=>?_
  refine ACalls.of tab mixed Tryd.call40 Tryd.func40 rfl (fi:=⟨15,[],[],none,[]⟩) rfl rfl (Nat.le_of_ble_eq_true rfl) (by decide) ?_
  unfold startA
  repeat' (first|refine st_seq_reg rfl (by first|(simp only[go_sem,hx];rfl)|rfl) (by first|(simp only[go_sem,hx];rfl)|rfl) ?_|refine st_op ?_|refine st_det rfl (by simp (disch:=omega) only[go_sem,wr_i64,if_yes,if_no,↓reduceIte,reduceAdd,reduceMul,reduceEqDiff,Nat.reduceBEq,reduceLeDiff,hx];rfl) ?_|(refine st_drum (by first|(simp (disch:=omega) only[go_sem,hx];rfl)|rfl) rfl (c39 b _ (by omega)) (by first|(simp (disch:=omega) only[go_sem,hx];rfl)|rfl|exact put_same _ _ _) (by assumption) (by first|(simp only[go_sem,hx];rfl)|rfl) (by intro x' n;first|(simp (disch:=omega) only[go_sem];rfl)|rfl) ?_;rintro v x' n hu' ⟨r,rfl,hr1,hr2⟩ hn)|refine st_nil ?_|refine st_ret ?_)
  simp (disch:=omega) only[AEnd,Tryd.results40,aresK,fin,go_sem,↓reduceIte,reduceEqDiff,reduceAdd,reduceLeDiff,if_yes,if_no,implies_true,true_and,and_true,List.reverse_cons,List.reverse_nil]
  exact ⟨fun b' _ h2=>if_neg h2,⟨_,rfl,hu'⟩,⟨_,rfl,by omega,by omega⟩⟩
theorem c65 (b:Nat × Nat) (es:List Int) (h1:es ≠ []) (h2:(es.length:Int)≤1000):Drum Tryd.prog 65 [.ptr b 0 0,.lst 1 (es.map iv)] b (fun v=>∃ r,v=.int .i64 r∧r ∈ es):=by
  have h3:0 < es.length:=List.length_pos_iff.2 h1
  refine Drum.of Tryd.call65 fun h x hx hu hold=>?_
  refine ACalls.of tab mixed Tryd.call65 Tryd.func65 rfl (fi:=⟨15,[],[],none,[]⟩) rfl rfl (Nat.le_of_ble_eq_true rfl) (by decide) ?_
  unfold startA
  repeat' (first|refine st_seq_reg rfl (by first|(simp only[go_sem,hx];rfl)|rfl) (by first|(simp only[go_sem,hx];rfl)|rfl) ?_|refine st_op ?_|refine st_det rfl (by simp (disch:=omega) only[go_sem,wr_i64,if_yes,if_no,↓reduceIte,reduceAdd,reduceMul,reduceEqDiff,Nat.reduceBEq,reduceLeDiff,hx];rfl) ?_|(refine st_drum (by first|(simp (disch:=omega) only[go_sem,hx];rfl)|rfl) rfl (c39 b _ (by omega)) (by first|(simp (disch:=omega) only[go_sem,hx];rfl)|rfl|exact put_same _ _ _) (by assumption) (by first|(simp only[go_sem,hx];rfl)|rfl) (by intro x' n;first|(simp (disch:=omega) only[go_sem];rfl)|rfl) ?_;rintro v x' n hu' ⟨r,rfl,hr1,hr2⟩ hn)|(refine st_condS rfl ?_ ?_ <;> intro hg <;> (try simp only[decide_eq_true_eq,decide_eq_false_iff_not,Bool.not_eq_true',Bool.not_eq_false'] at hg))|refine st_nil ?_|refine st_tN ?_|refine st_seq ?_|refine st_skip ?_|refine st_ret ?_|refine st_tR ?_)
  · omega
  · simp (disch:=omega) only[AEnd,Tryd.results65,aresK,fin,go_sem,↓reduceIte,reduceEqDiff,reduceAdd,reduceLeDiff,if_yes,if_no,implies_true,true_and,and_true,List.reverse_cons,List.reverse_nil]
    exact ⟨fun b' _ h2=>if_neg h2,⟨_,rfl,hu'⟩,⟨_,rfl,by rw [List.getD_eq_getElem?_getD,List.getElem?_eq_getElem (by omega:r.toNat < es.length)];exact List.getElem_mem _⟩⟩
theorem c65b (b:Nat × Nat) (x y:Int):Drum Tryd.prog 65 [.ptr b 0 0,.lst 1 [[.int .i64 x],[.int .i64 y]]] b (fun v=>∃ r,v=.int .i64 r∧(r=x ∨ r=y)):=by
  have h:=c65 b [x,y] (by simp) (by simp)
  simpa [iv] using h
theorem c64 (b:Nat × Nat) (lo hi:Int) (h1:0≤lo) (h2:lo≤hi) (h3:hi≤100000000):Drum Tryd.prog 64 [.ptr b 0 0,.int .i64 lo,.int .i64 hi] b (fun v=>∃ r q,v=.agg [.int .i64 r,.int .i64 q]∧lo≤r∧r≤q∧q≤hi):=by
  refine Drum.of Tryd.call64 fun h x hx hu hold=>?_
  refine ACalls.of tab mixed Tryd.call64 Tryd.func64 rfl (fi:=⟨36,[6],[],none,[]⟩) rfl rfl (Nat.le_of_ble_eq_true rfl) (by decide) ?_
  unfold startA
  repeat' (first|refine st_seq_reg rfl (by first|(simp only[go_sem,hx];rfl)|rfl) (by first|(simp only[go_sem,hx];rfl)|rfl) ?_|refine st_op ?_|refine st_det rfl (by simp (disch:=omega) only[go_sem,wr_i64,if_yes,if_no,↓reduceIte,reduceAdd,reduceMul,reduceEqDiff,Nat.reduceBEq,reduceLeDiff,hx];rfl) ?_|refine st_loc rfl (by simp (disch:=omega) only[go_sem,wr_i64,if_yes,if_no,↓reduceIte,reduceAdd,reduceMul,reduceEqDiff,Nat.reduceBEq,reduceLeDiff,hx];rfl) ?_|refine st_store (by simp (disch:=omega) only[go_sem,wr_i64,if_yes,if_no,↓reduceIte,reduceAdd,reduceMul,reduceEqDiff,Nat.reduceBEq,reduceLeDiff,hx];rfl) ?_|(refine st_drum (by first|(simp (disch:=omega) only[go_sem,hx];rfl)|rfl) rfl (c39 b _ (by omega)) (by first|(simp (disch:=omega) only[go_sem,hx];rfl)|rfl|exact put_same _ _ _) (by assumption) (by first|(simp only[go_sem,hx];rfl)|rfl) (by intro x' n;first|(simp (disch:=omega) only[go_sem];rfl)|rfl) ?_;rintro v x' n hu' ⟨r,rfl,hr1,hr2⟩ hn)|(refine st_drum (by first|(simp (disch:=omega) only[go_sem,hx];rfl)|rfl) rfl (c40 b _ _ (by omega) (by omega)) (by first|(simp (disch:=omega) only[go_sem,hx];rfl)|rfl|exact put_same _ _ _) (by assumption) (by first|(simp only[go_sem,hx];rfl)|rfl) (by intro x' n;first|(simp (disch:=omega) only[go_sem];rfl)|rfl) ?_;rintro v x' n hu' ⟨r,rfl,hr1,hr2⟩ hn)|(refine st_condS rfl ?_ ?_ <;> intro hg <;> (try simp only[decide_eq_true_eq,decide_eq_false_iff_not,Bool.not_eq_true',Bool.not_eq_false'] at hg))|refine st_nil ?_|refine st_tN ?_|refine st_seq ?_|refine st_block ?_|refine st_skip ?_|refine st_ret ?_|refine st_tR ?_|refine st_bN ?_|refine st_bR ?_)
  all_goals
    simp (disch:=omega) only[AEnd,Tryd.results64,aresK,fin,go_sem,↓reduceIte,reduceEqDiff,reduceAdd,reduceLeDiff,if_yes,if_no,implies_true,true_and,and_true,List.reverse_cons,List.reverse_nil]
    exact ⟨fun b' _ h2=>if_neg h2,⟨_,rfl,by assumption⟩,⟨_,_,rfl,by omega,by omega,by omega⟩⟩
def sP (l:(Int→Int)→Fl→Int→Int→Int) (f:Fl) (p m:Int):Prop:=0≤l (frontA f) f p m∧0≤l (rearA f) f p m
instance (l:(Int→Int)→Fl→Int→Int→Int) (f:Fl) (p m:Int):Decidable (sP l f p m):=by unfold sP;infer_instance
theorem c122a (f:Fl) (p m:Int) (hf:FlOk f) (hp:0≤p∧p≤3000) (hm:0≤m∧m≤100000):Pure Tryd.prog 122 [.int .i64 0,.iptr (Tk.av f p m).cells 0] (fun v=>v=.bool (decide (sP wL f p m))):=by
  intro h
  refine ACalls.forget (ACalls.of tab mixed Tryd.call122 Tryd.func122 rfl (fi:=⟨16,[],[],none,[]⟩) rfl rfl (Nat.le_of_ble_eq_true rfl) (by decide) ?_)
  unfold startA
  simp only[go_sem]
  repeat' (first|refine st_seq_reg rfl (by first|(simp only[go_sem];rfl)|rfl) (by first|(simp only[go_sem];rfl)|rfl) ?_|refine st_op ?_|refine st_det rfl (by simp (disch:=omega) only[go_sem,wr_i64,if_yes,if_no,↓reduceIte,reduceAdd,reduceMul,reduceEqDiff,Nat.reduceBEq,reduceLeDiff];rfl) ?_|(refine st_pureE (by first|(simp (disch:=omega) only[go_sem];rfl)|rfl) rfl (c123 f p m hf hp hm) (by first|(simp only[go_sem];rfl)|rfl) (by intro n;first|(simp (disch:=omega) only[go_sem];rfl)|rfl) ?_;intro n hn)|(refine st_pureE (by first|(simp (disch:=omega) only[go_sem];rfl)|rfl) rfl (c124 f p m hf hp hm) (by first|(simp only[go_sem];rfl)|rfl) (by intro n;first|(simp (disch:=omega) only[go_sem];rfl)|rfl) ?_;intro n hn)|refine st_gT rfl rfl rfl ?_|refine st_gF rfl rfl rfl ?_|(refine st_gS rfl rfl ?_ ?_ <;> intro hg <;> (try simp only[decide_eq_true_eq,decide_eq_false_iff_not,Bool.not_eq_true',Bool.not_eq_false'] at hg))|refine st_nil ?_|refine st_ret ?_)
  all_goals
    simp (disch:=omega) only[AEnd,Tryd.results122,aresK,fin,go_sem,↓reduceIte,reduceEqDiff,reduceAdd,reduceLeDiff,if_yes,if_no,implies_true,true_and,and_true,List.reverse_cons,List.reverse_nil]
    all_goals simp [sP, *]
theorem c122b (f:Fl) (p m:Int) (hf:FlOk f) (hp:0≤p∧p≤3000) (hm:0≤m∧m≤100000):Pure Tryd.prog 122 [.int .i64 1,.iptr (Tk.av f p m).cells 0] (fun v=>v=.bool (decide (sP wH f p m))):=by
  intro h
  refine ACalls.forget (ACalls.of tab mixed Tryd.call122 Tryd.func122 rfl (fi:=⟨16,[],[],none,[]⟩) rfl rfl (Nat.le_of_ble_eq_true rfl) (by decide) ?_)
  unfold startA
  simp only[go_sem]
  repeat' (first|refine st_seq_reg rfl (by first|(simp only[go_sem];rfl)|rfl) (by first|(simp only[go_sem];rfl)|rfl) ?_|refine st_op ?_|refine st_det rfl (by simp (disch:=omega) only[go_sem,wr_i64,if_yes,if_no,↓reduceIte,reduceAdd,reduceMul,reduceEqDiff,Nat.reduceBEq,reduceLeDiff];rfl) ?_|(refine st_pureE (by first|(simp (disch:=omega) only[go_sem];rfl)|rfl) rfl (c123 f p m hf hp hm) (by first|(simp only[go_sem];rfl)|rfl) (by intro n;first|(simp (disch:=omega) only[go_sem];rfl)|rfl) ?_;intro n hn)|(refine st_pureE (by first|(simp (disch:=omega) only[go_sem];rfl)|rfl) rfl (c124 f p m hf hp hm) (by first|(simp only[go_sem];rfl)|rfl) (by intro n;first|(simp (disch:=omega) only[go_sem];rfl)|rfl) ?_;intro n hn)|refine st_gT rfl rfl rfl ?_|refine st_gF rfl rfl rfl ?_|(refine st_gS rfl rfl ?_ ?_ <;> intro hg <;> (try simp only[decide_eq_true_eq,decide_eq_false_iff_not,Bool.not_eq_true',Bool.not_eq_false'] at hg))|refine st_nil ?_|refine st_ret ?_)
  all_goals
    simp (disch:=omega) only[AEnd,Tryd.results122,aresK,fin,go_sem,↓reduceIte,reduceEqDiff,reduceAdd,reduceLeDiff,if_yes,if_no,implies_true,true_and,and_true,List.reverse_cons,List.reverse_nil]
    all_goals simp [sP, *]
def sV (f:Fl) (p m:Int):Int:=if sP wL f p m then 1 else if sP wH f p m then 3 else 2
theorem c106 (f:Fl) (p m:Int) (hf:FlOk f) (hp:0≤p∧p≤3000) (hm:0≤m∧m≤100000):Pure Tryd.prog 106 [Tk.av f p m] (fun v=>v=.int .i64 (sV f p m)):=by
  intro h
  refine ACalls.forget (ACalls.of tab mixed Tryd.call106 Tryd.func106 rfl (fi:=⟨10,[],[1],none,[]⟩) rfl rfl (Nat.le_of_ble_eq_true rfl) (by decide) ?_)
  unfold startA
  simp only[go_sem]
  repeat' (first|refine st_seq_reg rfl (by first|(simp only[go_sem];rfl)|rfl) (by first|(simp only[go_sem];rfl)|rfl) ?_|refine st_op ?_|refine st_det rfl (by simp (disch:=omega) only[go_sem,wr_i64,if_yes,if_no,↓reduceIte,reduceAdd,reduceMul,reduceEqDiff,Nat.reduceBEq,reduceLeDiff];rfl) ?_|(refine st_pureV (by first|(simp only[go_sem];rfl)|rfl) (by first|(simp (disch:=omega) only[go_sem];rfl)|rfl) rfl (c122a f p m hf hp hm) (by first|(simp only[go_sem];rfl)|rfl) (by intro n;first|(simp (disch:=omega) only[go_sem];rfl)|rfl) ?_;intro v n hv hn;subst hv)|(refine st_pureV (by first|(simp only[go_sem];rfl)|rfl) (by first|(simp (disch:=omega) only[go_sem];rfl)|rfl) rfl (c122b f p m hf hp hm) (by first|(simp only[go_sem];rfl)|rfl) (by intro n;first|(simp (disch:=omega) only[go_sem];rfl)|rfl) ?_;intro v n hv hn;subst hv)|(refine st_pureE (by first|(simp (disch:=omega) only[go_sem];rfl)|rfl) rfl (c125 _ _) (by first|(simp only[go_sem];rfl)|rfl) (by intro n;first|(simp (disch:=omega) only[go_sem];rfl)|rfl) ?_;intro n hn)|refine st_nil ?_|refine st_ret ?_)
  simp (disch:=omega) only[AEnd,Tryd.results106,aresK,fin,go_sem,↓reduceIte,reduceEqDiff,reduceAdd,reduceLeDiff,if_yes,if_no,implies_true,true_and,and_true,List.reverse_cons,List.reverse_nil]
  simp [sV]
theorem bothOk {f:Fl} {r:List Hu} (h:bothE f r=0):FlOk f∧(∀ x ∈ r,HuOk x)∧r.length≤40∧chkE f=0∧routeE r=0:=by
  have hc0:chkE f=0:=by unfold bothE at h;split at h <;> omega
  have hr0:routeE r=0:=by unfold bothE at h;split at h <;> omega
  exact ⟨chkOk hc0,routeOk hr0,routeLen hr0,hc0,hr0⟩
def stopR (f:Fl) (r:List Hu) (v:AV):Prop :=
  if bothE f r ≠ 0 then v=.tup [.int .i64 0,.int .i64 (bothE f r)] else
  ∃ k:Int,v=.tup [.int .i64 k,.int .i64 0]∧((k = -1∧∀ j,j < r.length→pV f 0 0 (hu r j)=1) ∨ ∃ j:Nat,j < r.length∧k=j∧pV f 0 0 (hu r j) ≠ 1∧∀ i,i < j→pV f 0 0 (hu r i)=1)
theorem c70 (f:Fl) (r:List Hu):Pure Tryd.prog 70 [f.av,.lst 3 (r.map Hu.row)] (stopR f r):=by
  intro h
  refine ACalls.forget ?_
  have hne0:∀ b':Nat × Nat,b'.1 < h.clk→¬ b'=(h.clk,4):=fun b' hb' e=>by rw [e] at hb';exact absurd hb' (Nat.lt_irrefl _)
  have hne1:∀ b':Nat × Nat,b'.1 < h.clk→¬ b'=(h.clk,5):=fun b' hb' e=>by rw [e] at hb';exact absurd hb' (Nat.lt_irrefl _)
  refine ACalls.of tab mixed Tryd.call70 Tryd.func70 rfl (fi:=⟨24,[],[2],none,[]⟩) rfl rfl (Nat.le_of_ble_eq_true rfl) (by decide) ?_
  unfold startA
  simp only[go_sem]
  repeat' (first|refine st_seq_reg rfl (by first|(simp only[go_sem];rfl)|rfl) (by first|(simp only[go_sem];rfl)|rfl) ?_|refine st_op ?_|refine st_det rfl (by simp (disch:=omega) only[go_sem,wr_i64,if_yes,if_no,↓reduceIte,reduceAdd,reduceMul,reduceEqDiff,Nat.reduceBEq,reduceLeDiff];rfl) ?_|refine st_heap rfl (by simp (disch:=omega) only[go_sem,wr_i64,if_yes,if_no,↓reduceIte,reduceAdd,reduceMul,reduceEqDiff,Nat.reduceBEq,reduceLeDiff];rfl) ?_|refine st_store (by simp (disch:=omega) only[go_sem,wr_i64,if_yes,if_no,↓reduceIte,reduceAdd,reduceMul,reduceEqDiff,Nat.reduceBEq,reduceLeDiff];rfl) ?_|(refine st_pureE (by first|(simp (disch:=omega) only[go_sem];rfl)|rfl) rfl (c107 f r) (by first|(simp only[go_sem];rfl)|rfl) (by intro n;first|(simp (disch:=omega) only[go_sem];rfl)|rfl) ?_;intro n hn)|(refine st_pureE (by first|(simp (disch:=omega) only[go_sem];rfl)|rfl) rfl (c108 f 0 0 r) (by first|(simp only[go_sem];rfl)|rfl) (by intro n;first|(simp (disch:=omega) only[go_sem];rfl)|rfl) ?_;intro n hn)|(refine st_condS rfl ?_ ?_ <;> intro hg <;> (try simp only[decide_eq_true_eq,decide_eq_false_iff_not,Bool.not_eq_true',Bool.not_eq_false'] at hg))|refine st_nil ?_|refine st_tN ?_|refine st_seq ?_|refine st_block ?_|refine st_skip ?_|refine st_ret ?_|refine st_tR ?_)
  · simp (disch:=omega) only[AEnd,Tryd.results70,aresK,fin,go_sem,↓reduceIte,reduceEqDiff,reduceAdd,reduceLeDiff,if_yes,if_no,implies_true,true_and,and_true,List.reverse_cons,List.reverse_nil]
    refine ⟨fun b' hb'=>?_,by simp [stopR,hg]⟩
    simp only[hne0 b' hb',hne1 b' hb',if_false,↓reduceIte]
  have hb:bothE f r=0:=by omega
  obtain ⟨hf,hr,hl,_,_⟩:=bothOk hb
  have hS:∀ v,(∃ k:Int,v=.tup [.int .i64 k,.int .i64 0]∧((k = -1∧∀ j,j < r.length→pV f 0 0 (hu r j)=1) ∨ ∃ j:Nat,j < r.length∧k=j∧pV f 0 0 (hu r j) ≠ 1∧∀ i,i < j→pV f 0 0 (hu r i)=1))→stopR f r v:=fun v hv=>by unfold stopR;rw [if_neg (by omega)];exact hv
  refine st_rangeFunc rfl (by simp only[go_sem];rfl) (fun l D R hR hlp=>?_)
  simp only[go_sem] at hlp
  let J:AH→Prop:=fun g=>(∀ b':Bid,b'.1 < h.clk→g.at_ b'=h.at_ b')∧(∀ l',l' ≠ l→g.lp l'=h.lp l')
  let I:Nat→AH→Prop:=fun i g=>g.lp l=some R∧J g∧g.at_ (h.clk,4)=some ⟨1,[[.int .i64 0]]⟩∧g.at_ (h.clk,5)=some ⟨1,[[.int .i64 0]]⟩∧∀ j,j < i→pV f 0 0 (hu r j)=1
  let E:AH→Prop:=fun g=>g.lp l=some (R.stop .ret)∧J g∧∃ j:Nat,j < r.length∧g.at_ (h.clk,4)=some ⟨1,[[.int .i64 j]]⟩∧g.at_ (h.clk,5)=some ⟨1,[[.int .i64 0]]⟩∧pV f 0 0 (hu r j) ≠ 1∧∀ i,i < j→pV f 0 0 (hu r i)=1
  refine (c127 f 0 0 r l hf (by omega) (by omega) hr (by omega) I E ?_ ?_ ?_ _ ?_).mono ?_
  · exact fun i g n h _=>h
  · exact fun g n h _=>h
  · rintro i g hi ⟨h1,⟨h2,h3⟩,h4,h4',h5⟩
    refine AYields.canon tab mixed [] [2] [] hR h1 rfl (by intro p hp;simp at hp;rcases hp with rfl|rfl <;> decide) [(19,.int .i64 i),(20,.int .i64 (pV f 0 0 (hu r i))),(4,.ptr (h.clk,4) 0 0),(5,.ptr (h.clk,5) 0 0)] ⟨rfl,rfl,rfl,rfl,trivial⟩ rfl rfl ?_
    simp only[go_sem]
    repeat' (first|refine st_seq_reg rfl (by first|(simp only[go_sem];rfl)|rfl) (by first|(simp only[go_sem];rfl)|rfl) ?_|refine st_reg rfl (by first|(simp only[go_sem];rfl)|rfl) (by first|(simp only[go_sem];rfl)|rfl) ?_|refine st_op ?_|refine st_det rfl (by simp (disch:=omega) only[go_sem,wr_i64,if_yes,if_no,↓reduceIte,reduceAdd,reduceMul,reduceEqDiff,Nat.reduceBEq,reduceLeDiff];rfl) ?_|refine st_nil ?_|refine st_tN ?_)
    refine ⟨h1,?_⟩
    dsimp only
    repeat' (first|refine st_seq_reg rfl (by first|(simp only[go_sem,h4,h4'];rfl)|rfl) (by first|(simp only[go_sem,h4,h4'];rfl)|rfl) ?_|refine st_op ?_|refine st_det rfl (by simp (disch:=omega) only[go_sem,wr_i64,if_yes,if_no,↓reduceIte,reduceAdd,reduceMul,reduceEqDiff,Nat.reduceBEq,reduceLeDiff,h4,h4'];rfl) ?_|refine st_store (by simp (disch:=omega) only[go_sem,wr_i64,if_yes,if_no,↓reduceIte,reduceAdd,reduceMul,reduceEqDiff,Nat.reduceBEq,reduceLeDiff,h4,h4'];rfl) ?_|(refine st_condS rfl ?_ ?_ <;> intro hg <;> (try simp only[decide_eq_true_eq,decide_eq_false_iff_not,Bool.not_eq_true',Bool.not_eq_false'] at hg))|refine st_nil ?_|refine st_block ?_|refine st_skip ?_|refine st_ret ?_|refine st_bN ?_|refine st_bR ?_)
    · refine ⟨by simp only[go_sem],.inr ⟨rfl,lpSet_same _ _ _,⟨fun b' hb'=>?_,fun l' hl'=>?_⟩,i,hi,?_,?_,hg,h5⟩⟩
      · simp only[go_sem];rw [if_neg (hne1 b' hb'),if_neg (hne0 b' hb')];exact h2 b' hb'
      · rw [lpSet_ne _ _ hl'];simp only[go_sem];rw [lpSet_ne _ _ hl'];exact h3 l' hl'
      · simp (disch:=omega) only[go_sem,↓reduceIte,reduceEqDiff,reduceLeDiff] <;> rfl
      · simp (disch:=omega) only[go_sem,↓reduceIte,reduceEqDiff,reduceLeDiff] <;> rfl
    · refine ⟨by simp only[go_sem],.inl ⟨rfl,lpSet_same _ _ _,⟨fun b' hb'=>h2 b' hb',fun l' hl'=>?_⟩,h4,h4',fun j hj=>?_⟩⟩
      · rw [lpSet_ne _ _ hl'];simp only[go_sem];rw [lpSet_ne _ _ hl'];exact h3 l' hl'
      · by_cases e:j=i
        · rw [e];exact Decidable.of_not_not hg
        · exact h5 j (by omega)
  · exact ⟨lpSet_same _ _ _,⟨fun b' hb'=>by simp only[go_sem];rw [if_neg (hne1 b' hb'),if_neg (hne0 b' hb')],fun l' hl'=>by rw [lpSet_ne _ _ hl'];rfl⟩,by simp (disch:=omega) only[go_sem,↓reduceIte,reduceEqDiff,reduceLeDiff] <;> rfl,by simp (disch:=omega) only[go_sem,↓reduceIte,reduceEqDiff,reduceLeDiff] <;> rfl,fun j hj=>absurd hj (Nat.not_lt_zero _)⟩
  · have hlp2:∀ h':AH,(∀ l',l' ≠ l→h'.lp l'=h.lp l')→(h'.lpSet l none).lp=h.lp:=by
      intro h' h3
      funext l'
      by_cases e:l'=l
      · rw [e,lpSet_same,hlp]
      · rw [lpSet_ne _ _ e];exact h3 l' e
    rintro v h' (⟨h1,⟨h2,h3⟩,h4,h4',h5⟩|⟨h1,⟨h2,h3⟩,j,hj,h4,h4',h5,h6⟩)
    · refine .inl ⟨h1,st_bN (st_tN ?_)⟩
      repeat' (first|refine st_seq_reg rfl (by first|(simp only[go_sem,h4,h4'];rfl)|rfl) (by first|(simp only[go_sem,h4,h4'];rfl)|rfl) ?_|refine st_op ?_|refine st_store (by simp (disch:=omega) only[go_sem,wr_i64,if_yes,if_no,↓reduceIte,reduceAdd,reduceMul,reduceEqDiff,Nat.reduceBEq,reduceLeDiff,h4,h4'];rfl) ?_|refine st_nil ?_|refine st_ret ?_)
      simp (disch:=omega) only[AEnd,Tryd.results70,aresK,fin,go_sem,↓reduceIte,reduceEqDiff,reduceAdd,reduceLeDiff,if_yes,if_no,implies_true,true_and,and_true,List.reverse_cons,List.reverse_nil,hlp2 h' h3]
      refine ⟨fun b' hb'=>?_,hS _ ⟨-1,rfl,.inl ⟨rfl,h5⟩⟩⟩
      rw [if_neg (hne1 b' hb'),if_neg (hne0 b' hb')];exact h2 b' hb'
    · refine .inr ⟨.ret,h1,ASem.ret (st_bR (st_tR ?_))⟩
      simp (disch:=omega) only[AEnd,Tryd.results70,aresK,fin,go_sem,↓reduceIte,reduceEqDiff,reduceAdd,reduceLeDiff,if_yes,if_no,implies_true,true_and,and_true,List.reverse_cons,List.reverse_nil,hlp2 h' h3,h4,h4']
      exact ⟨h2,hS _ ⟨j,rfl,.inr ⟨j,hj,rfl,h5,h6⟩⟩⟩
theorem c69 (f:Fl) (h0:chkE f=0):Pure Tryd.prog 69 [f.av] (fun v=>v=.tup [.int .i64 (sV f 0 0),.int .i64 0]):=by
  have hf:=chkOk h0
  intro h
  refine ACalls.forget (ACalls.of tab mixed Tryd.call69 Tryd.func69 rfl (fi:=⟨13,[],[1],none,[]⟩) rfl rfl (Nat.le_of_ble_eq_true rfl) (by decide) ?_)
  unfold startA
  simp only[go_sem]
  repeat' (first|refine st_seq_reg rfl (by first|(simp only[go_sem];rfl)|rfl) (by first|(simp only[go_sem];rfl)|rfl) ?_|refine st_op ?_|refine st_det rfl (by simp (disch:=omega) only[go_sem,wr_i64,if_yes,if_no,↓reduceIte,reduceAdd,reduceMul,reduceEqDiff,Nat.reduceBEq,reduceLeDiff];rfl) ?_|(refine st_pureE (by first|(simp (disch:=omega) only[go_sem];rfl)|rfl) rfl (c25 f) (by first|(simp only[go_sem];rfl)|rfl) (by intro n;first|(simp (disch:=omega) only[go_sem];rfl)|rfl) ?_;intro n hn)|(refine st_pureE (by first|(simp (disch:=omega) only[go_sem];rfl)|rfl) rfl (c106 f 0 0 hf (by omega) (by omega)) (by first|(simp only[go_sem];rfl)|rfl) (by intro n;first|(simp (disch:=omega) only[go_sem];rfl)|rfl) ?_;intro n hn)|(refine st_condS rfl ?_ ?_ <;> intro hg <;> (try simp only[decide_eq_true_eq,decide_eq_false_iff_not,Bool.not_eq_true',Bool.not_eq_false'] at hg))|refine st_nil ?_|refine st_tN ?_|refine st_seq ?_|refine st_skip ?_|refine st_ret ?_|refine st_tR ?_)
  · exact absurd h0 (by omega)
  · simp (disch:=omega) only[AEnd,Tryd.results69,aresK,fin,go_sem,↓reduceIte,reduceEqDiff,reduceAdd,reduceLeDiff,if_yes,if_no,implies_true,true_and,and_true,List.reverse_cons,List.reverse_nil]
end Go.Proofs.YtaijkalhkgjakaaDoor
