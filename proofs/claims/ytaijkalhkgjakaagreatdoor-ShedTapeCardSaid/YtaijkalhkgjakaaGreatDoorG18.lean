/- Contracts of functions that the claim reaches: what each call gives, told in our own logic. Conditions: those of each theorem. -/
import Derived.Test.YtaijkalhkgjakaaGreatDoorP2
import Derived.Test.YtaijkalhkgjakaaGreatDoorF10
import Derived.Test.YtaijkalhkgjakaaGreatDoorBaseC
import Derived.Test.YtaijkalhkgjakaaGreatDoorF6
open Nat (reduceAdd reduceMul reduceEqDiff reduceLeDiff)
set_option linter.all false
set_option linter.unusedSimpArgs false
set_option linter.unusedVariables false
namespace Go.Proofs.YtaijkalhkgjakaaGreatDoor
open Go.Av
attribute [local irreducible] thenA blockA awp awpOps awpD awp1
set_option maxHeartbeats 8000000
set_option maxRecDepth 20000
theorem wr_u64 (n:Int):isU64 (wr .u64 n):=by
  unfold isU64 wr IntKind.wrap
  simp only[IntKind.signed,IntKind.bits,Bool.false_and,Bool.false_eq_true,if_false]
  omega
theorem xor_u64 (a b:Int):isU64 (bitop .xor .u64 a b):=wr_u64 _
theorem st_u64 {P:Program} {tt:Nat→TI} {fi:FI} {k0:Nat} {K:AS→Prop} {T:Nat→AV} {B:Bid→Option (List AV)} {M:List Nat} {H:AH} {d:Tmp} {op:Op} {t:TypeId} {p:String} {a:Array Edge} {g:Option (Nat × Bool)} {v:Int} (hd:isDet ⟨some d,op,t,p,a,g⟩=true) (h:dres tt fi k0 ⟨some d,op,t,p,a,g⟩ ⟨T,B,M,H⟩=some (.int .u64 v,.none)) (hv:isU64 v) (hk:∀ y,isU64 y→K ⟨upd T d (.int .u64 y),B,M,H⟩) :
    awp1 P tt fi k0 ⟨some d,op,t,p,a,g⟩ ⟨T,B,M,H⟩ K:=st_det hd h (hk v hv)
theorem c44 (b:Nat × Nat):Drum Tryz.prog 44 [.ptr b 0 0] b (fun v=>∃ y,isU64 y∧v=.int .u64 y):=by
  refine Drum.of Tryz.call44 fun h x hx hu hold=>?_
  refine ACalls.of tab mixed Tryz.call44 Tryz.func44 rfl (fi:=⟨31,[],[],none,[]⟩) rfl rfl (Nat.le_of_ble_eq_true rfl) (by decide) ?_
  unfold startA
  simp only[dr] at hx ⊢
  repeat' (first|refine st_seq_reg rfl (by first|(simp only[go_sem,hx];rfl)|rfl) (by first|(simp only[go_sem,hx];rfl)|rfl) ?_|refine st_op ?_|(refine st_u64 rfl (by simp (disch:=omega) only[go_sem,wr_i64,if_yes,if_no,↓reduceIte,reduceAdd,reduceMul,reduceEqDiff,Nat.reduceBEq,reduceLeDiff,hx];rfl) (by first|exact wr_u64 _|exact xor_u64 _ _) ?_;intro y hy)|refine st_det rfl (by simp (disch:=omega) only[go_sem,wr_i64,if_yes,if_no,↓reduceIte,reduceAdd,reduceMul,reduceEqDiff,Nat.reduceBEq,reduceLeDiff,hx];rfl) ?_|refine st_store (by simp (disch:=omega) only[go_sem,wr_i64,if_yes,if_no,↓reduceIte,reduceAdd,reduceMul,reduceEqDiff,Nat.reduceBEq,reduceLeDiff,hx];rfl) ?_|refine st_nil ?_|refine st_ret ?_)
  simp (disch:=omega) only[AEnd,Tryz.results44,aresK,fin,go_sem,↓reduceIte,reduceEqDiff,reduceAdd,reduceLeDiff,if_yes,if_no,implies_true,true_and,and_true,List.reverse_cons,List.reverse_nil]
  exact ⟨fun b' _ hn=>if_neg hn,⟨_,rfl,by assumption⟩,⟨_,by assumption,rfl⟩⟩
theorem wr_u64i {n:Int} (h:0≤n∧n < 18446744073709551616):wr .u64 n=n:=by
  unfold wr IntKind.wrap
  simp only[IntKind.signed,IntKind.bits,Bool.false_and,Bool.false_eq_true,if_false]
  omega
theorem roll_bd {y n:Int} (hy:isU64 y) (hn:2≤n):0≤(shr .u64 y 1).tmod n∧(shr .u64 y 1).tmod n < n:=by
  have h:0≤shr .u64 y 1:=by
    unfold shr
    rw [Int.fdiv_eq_ediv_of_nonneg _ (by decide)]
    have:=hy.1
    exact Int.ediv_nonneg this (by decide)
  exact ⟨Int.tmod_nonneg _ h,Int.tmod_lt_of_pos _ (by omega)⟩
def Rolls (n:Int) (v:AV):Prop:=∃ r,v=.int .i64 r∧0≤r∧(r < n ∨ r=0)
theorem c45 (b:Nat × Nat) (N:Int) (hN:N≤1000000000):Drum Tryz.prog 45 [.ptr b 0 0,.int .i64 N] b (Rolls N):=by
  refine Drum.of Tryz.call45 fun h x hx hu hold=>?_
  refine ACalls.of tab mixed Tryz.call45 Tryz.func45 rfl (fi:=⟨14,[],[],none,[]⟩) rfl rfl (Nat.le_of_ble_eq_true rfl) (by decide) ?_
  unfold startA
  repeat' (first|refine st_seq_reg rfl (by first|(simp only[go_sem,hx,wr_u64i];rfl)|rfl) (by first|(simp only[go_sem,hx,wr_u64i];rfl)|rfl) ?_|refine st_op ?_|refine st_det rfl (by simp (disch:=omega) only[go_sem,wr_i64,if_yes,if_no,↓reduceIte,reduceAdd,reduceMul,reduceEqDiff,Nat.reduceBEq,reduceLeDiff,hx,wr_u64i];rfl) ?_|(refine st_drum (by first|(simp (disch:=omega) only[go_sem];rfl)|(simp (disch:=omega) only[go_sem])) rfl (c44 b) (by simp (disch:=omega) only[go_sem];exact hx) hu (by first|(simp only[go_sem];rfl)|rfl) (by intro x' n;simp (disch:=omega) only[go_sem];rfl) ?_;rintro v x' n hu' ⟨y,hy,rfl⟩ hn;have hr:=roll_bd hy (by omega:2≤N))|(refine st_condS rfl ?_ ?_ <;> intro hg <;> (try simp only[decide_eq_true_eq,decide_eq_false_iff_not,Bool.not_eq_true',Bool.not_eq_false'] at hg))|refine st_nil ?_|refine st_tN ?_|refine st_seq ?_|refine st_skip ?_|refine st_ret ?_|refine st_tR ?_)
  · simp (disch:=omega) only[AEnd,Tryz.results45,aresK,fin,go_sem,↓reduceIte,reduceEqDiff,reduceAdd,reduceLeDiff,if_yes,if_no,implies_true,true_and,and_true,List.reverse_cons,List.reverse_nil]
    exact ⟨⟨x,hx,hu⟩,⟨0,rfl,by omega,by omega⟩⟩
  · simp (disch:=omega) only[AEnd,Tryz.results45,aresK,fin,go_sem,↓reduceIte,reduceEqDiff,reduceAdd,reduceLeDiff,if_yes,if_no,implies_true,true_and,and_true,List.reverse_cons,List.reverse_nil]
    exact ⟨fun b' _ h2=>if_neg h2,⟨_,rfl,hu'⟩,⟨_,rfl,by omega,by omega⟩⟩
theorem c48 (b:Nat × Nat) (lo hi:Int) (h1:-1000000000≤lo∧lo≤1000000000) (h2:lo - 1≤hi∧hi - lo < 1000000000):Drum Tryz.prog 48 [.ptr b 0 0,.int .i64 lo,.int .i64 hi] b (fun v=>∃ r,v=.int .i64 r∧lo≤r∧(r≤hi ∨ r=lo)):=by
  refine Drum.of Tryz.call48 fun h x hx hu hold=>?_
  refine ACalls.of tab mixed Tryz.call48 Tryz.func48 rfl (fi:=⟨15,[],[],none,[]⟩) rfl rfl (Nat.le_of_ble_eq_true rfl) (by decide) ?_
  unfold startA
  repeat' (first|refine st_seq_reg rfl (by first|(simp only[go_sem,hx];rfl)|rfl) (by first|(simp only[go_sem,hx];rfl)|rfl) ?_|refine st_op ?_|refine st_det rfl (by simp (disch:=omega) only[go_sem,wr_i64,if_yes,if_no,↓reduceIte,reduceAdd,reduceMul,reduceEqDiff,Nat.reduceBEq,reduceLeDiff,hx];rfl) ?_|(refine st_drum (by first|(simp (disch:=omega) only[go_sem,hx];rfl)|rfl) rfl (c45 b _ (by omega)) (by first|(simp (disch:=omega) only[go_sem,hx];rfl)|rfl|exact put_same _ _ _) (by assumption) (by first|(simp only[go_sem,hx];rfl)|rfl) (by intro x' n;first|(simp (disch:=omega) only[go_sem];rfl)|rfl) ?_;rintro v x' n hu' ⟨r,rfl,hr1,hr2⟩ hn)|refine st_nil ?_|refine st_ret ?_)
  simp (disch:=omega) only[AEnd,Tryz.results48,aresK,fin,go_sem,↓reduceIte,reduceEqDiff,reduceAdd,reduceLeDiff,if_yes,if_no,implies_true,true_and,and_true,List.reverse_cons,List.reverse_nil]
  exact ⟨fun b' _ h2=>if_neg h2,⟨_,rfl,hu'⟩,⟨_,rfl,by omega,by omega⟩⟩
theorem c50 (b:Nat × Nat) (es:List Int) (h1:es ≠ []) (h2:(es.length:Int)≤1000):Drum Tryz.prog 50 [.ptr b 0 0,.lst 1 (es.map iv)] b (fun v=>∃ r,v=.int .i64 r∧r ∈ es):=by
  have h3:0 < es.length:=List.length_pos_iff.2 h1
  refine Drum.of Tryz.call50 fun h x hx hu hold=>?_
  refine ACalls.of tab mixed Tryz.call50 Tryz.func50 rfl (fi:=⟨15,[],[],none,[]⟩) rfl rfl (Nat.le_of_ble_eq_true rfl) (by decide) ?_
  unfold startA
  repeat' (first|refine st_seq_reg rfl (by first|(simp only[go_sem,hx];rfl)|rfl) (by first|(simp only[go_sem,hx];rfl)|rfl) ?_|refine st_op ?_|refine st_det rfl (by simp (disch:=omega) only[go_sem,wr_i64,if_yes,if_no,↓reduceIte,reduceAdd,reduceMul,reduceEqDiff,Nat.reduceBEq,reduceLeDiff,hx];rfl) ?_|(refine st_drum (by first|(simp (disch:=omega) only[go_sem,hx];rfl)|rfl) rfl (c45 b _ (by omega)) (by first|(simp (disch:=omega) only[go_sem,hx];rfl)|rfl|exact put_same _ _ _) (by assumption) (by first|(simp only[go_sem,hx];rfl)|rfl) (by intro x' n;first|(simp (disch:=omega) only[go_sem];rfl)|rfl) ?_;rintro v x' n hu' ⟨r,rfl,hr1,hr2⟩ hn)|(refine st_condS rfl ?_ ?_ <;> intro hg <;> (try simp only[decide_eq_true_eq,decide_eq_false_iff_not,Bool.not_eq_true',Bool.not_eq_false'] at hg))|refine st_nil ?_|refine st_tN ?_|refine st_seq ?_|refine st_skip ?_|refine st_ret ?_|refine st_tR ?_)
  · omega
  · simp (disch:=omega) only[AEnd,Tryz.results50,aresK,fin,go_sem,↓reduceIte,reduceEqDiff,reduceAdd,reduceLeDiff,if_yes,if_no,implies_true,true_and,and_true,List.reverse_cons,List.reverse_nil]
    exact ⟨fun b' _ h2=>if_neg h2,⟨_,rfl,hu'⟩,⟨_,rfl,by rw [List.getD_eq_getElem?_getD,List.getElem?_eq_getElem (by omega:r.toNat < es.length)];exact List.getElem_mem _⟩⟩
theorem c50b (b:Nat × Nat) (x y:Int):Drum Tryz.prog 50 [.ptr b 0 0,.lst 1 [[.int .i64 x],[.int .i64 y]]] b (fun v=>∃ r,v=.int .i64 r∧(r=x ∨ r=y)):=by
  have h:=c50 b [x,y] (by simp) (by simp)
  simpa [iv] using h
theorem c49 (b:Nat × Nat) (lo hi:Int) (h1:0≤lo) (h2:lo≤hi) (h3:hi≤100000000):Drum Tryz.prog 49 [.ptr b 0 0,.int .i64 lo,.int .i64 hi] b (fun v=>∃ r q,v=.agg [.int .i64 r,.int .i64 q]∧lo≤r∧r≤q∧q≤hi):=by
  refine Drum.of Tryz.call49 fun h x hx hu hold=>?_
  refine ACalls.of tab mixed Tryz.call49 Tryz.func49 rfl (fi:=⟨36,[6],[],none,[]⟩) rfl rfl (Nat.le_of_ble_eq_true rfl) (by decide) ?_
  unfold startA
  repeat' (first|refine st_seq_reg rfl (by first|(simp only[go_sem,hx];rfl)|rfl) (by first|(simp only[go_sem,hx];rfl)|rfl) ?_|refine st_op ?_|refine st_det rfl (by simp (disch:=omega) only[go_sem,wr_i64,if_yes,if_no,↓reduceIte,reduceAdd,reduceMul,reduceEqDiff,Nat.reduceBEq,reduceLeDiff,hx];rfl) ?_|refine st_loc rfl (by simp (disch:=omega) only[go_sem,wr_i64,if_yes,if_no,↓reduceIte,reduceAdd,reduceMul,reduceEqDiff,Nat.reduceBEq,reduceLeDiff,hx];rfl) ?_|refine st_store (by simp (disch:=omega) only[go_sem,wr_i64,if_yes,if_no,↓reduceIte,reduceAdd,reduceMul,reduceEqDiff,Nat.reduceBEq,reduceLeDiff,hx];rfl) ?_|(refine st_drum (by first|(simp (disch:=omega) only[go_sem,hx];rfl)|rfl) rfl (c45 b _ (by omega)) (by first|(simp (disch:=omega) only[go_sem,hx];rfl)|rfl|exact put_same _ _ _) (by assumption) (by first|(simp only[go_sem,hx];rfl)|rfl) (by intro x' n;first|(simp (disch:=omega) only[go_sem];rfl)|rfl) ?_;rintro v x' n hu' ⟨r,rfl,hr1,hr2⟩ hn)|(refine st_drum (by first|(simp (disch:=omega) only[go_sem,hx];rfl)|rfl) rfl (c48 b _ _ (by omega) (by omega)) (by first|(simp (disch:=omega) only[go_sem,hx];rfl)|rfl|exact put_same _ _ _) (by assumption) (by first|(simp only[go_sem,hx];rfl)|rfl) (by intro x' n;first|(simp (disch:=omega) only[go_sem];rfl)|rfl) ?_;rintro v x' n hu' ⟨r,rfl,hr1,hr2⟩ hn)|(refine st_condS rfl ?_ ?_ <;> intro hg <;> (try simp only[decide_eq_true_eq,decide_eq_false_iff_not,Bool.not_eq_true',Bool.not_eq_false'] at hg))|refine st_nil ?_|refine st_tN ?_|refine st_seq ?_|refine st_block ?_|refine st_skip ?_|refine st_ret ?_|refine st_tR ?_|refine st_bN ?_|refine st_bR ?_)
  all_goals
    simp (disch:=omega) only[AEnd,Tryz.results49,aresK,fin,go_sem,↓reduceIte,reduceEqDiff,reduceAdd,reduceLeDiff,if_yes,if_no,implies_true,true_and,and_true,List.reverse_cons,List.reverse_nil]
    exact ⟨fun b' _ h2=>if_neg h2,⟨_,rfl,by assumption⟩,⟨_,_,rfl,by omega,by omega,by omega⟩⟩
def sP (l:(Int→Int)→Fl→Int→Int→Int) (f:Fl) (p m:Int):Prop:=0≤l (frontA f) f p m∧0≤l (rearA f) f p m
instance (l:(Int→Int)→Fl→Int→Int→Int) (f:Fl) (p m:Int):Decidable (sP l f p m):=by unfold sP;infer_instance
theorem c118a (f:Fl) (p m:Int) (hf:FlOk f) (hp:0≤p∧p≤3000) (hm:0≤m∧m≤100000):Pure Tryz.prog 118 [.int .i64 0,.iptr (Tk.av f p m).cells 0] (fun v=>v=.bool (decide (sP wL f p m))):=by
  intro h
  refine ACalls.forget (ACalls.of tab mixed Tryz.call118 Tryz.func118 rfl (fi:=⟨16,[],[],none,[]⟩) rfl rfl (Nat.le_of_ble_eq_true rfl) (by decide) ?_)
  unfold startA
  simp only[go_sem]
  repeat' (first|refine st_seq_reg rfl (by first|(simp only[go_sem];rfl)|rfl) (by first|(simp only[go_sem];rfl)|rfl) ?_|refine st_op ?_|refine st_det rfl (by simp (disch:=omega) only[go_sem,wr_i64,if_yes,if_no,↓reduceIte,reduceAdd,reduceMul,reduceEqDiff,Nat.reduceBEq,reduceLeDiff];rfl) ?_|(refine st_pureE (by first|(simp (disch:=omega) only[go_sem];rfl)|rfl) rfl (c119 f p m hf hp hm) (by first|(simp only[go_sem];rfl)|rfl) (by intro n;first|(simp (disch:=omega) only[go_sem];rfl)|rfl) ?_;intro n hn)|(refine st_pureE (by first|(simp (disch:=omega) only[go_sem];rfl)|rfl) rfl (c120 f p m hf hp hm) (by first|(simp only[go_sem];rfl)|rfl) (by intro n;first|(simp (disch:=omega) only[go_sem];rfl)|rfl) ?_;intro n hn)|refine st_gT rfl rfl rfl ?_|refine st_gF rfl rfl rfl ?_|(refine st_gS rfl rfl ?_ ?_ <;> intro hg <;> (try simp only[decide_eq_true_eq,decide_eq_false_iff_not,Bool.not_eq_true',Bool.not_eq_false'] at hg))|refine st_nil ?_|refine st_ret ?_)
  all_goals
    simp (disch:=omega) only[AEnd,Tryz.results118,aresK,fin,go_sem,↓reduceIte,reduceEqDiff,reduceAdd,reduceLeDiff,if_yes,if_no,implies_true,true_and,and_true,List.reverse_cons,List.reverse_nil]
    all_goals simp [sP, *]
theorem c118b (f:Fl) (p m:Int) (hf:FlOk f) (hp:0≤p∧p≤3000) (hm:0≤m∧m≤100000):Pure Tryz.prog 118 [.int .i64 1,.iptr (Tk.av f p m).cells 0] (fun v=>v=.bool (decide (sP wH f p m))):=by
  intro h
  refine ACalls.forget (ACalls.of tab mixed Tryz.call118 Tryz.func118 rfl (fi:=⟨16,[],[],none,[]⟩) rfl rfl (Nat.le_of_ble_eq_true rfl) (by decide) ?_)
  unfold startA
  simp only[go_sem]
  repeat' (first|refine st_seq_reg rfl (by first|(simp only[go_sem];rfl)|rfl) (by first|(simp only[go_sem];rfl)|rfl) ?_|refine st_op ?_|refine st_det rfl (by simp (disch:=omega) only[go_sem,wr_i64,if_yes,if_no,↓reduceIte,reduceAdd,reduceMul,reduceEqDiff,Nat.reduceBEq,reduceLeDiff];rfl) ?_|(refine st_pureE (by first|(simp (disch:=omega) only[go_sem];rfl)|rfl) rfl (c119 f p m hf hp hm) (by first|(simp only[go_sem];rfl)|rfl) (by intro n;first|(simp (disch:=omega) only[go_sem];rfl)|rfl) ?_;intro n hn)|(refine st_pureE (by first|(simp (disch:=omega) only[go_sem];rfl)|rfl) rfl (c120 f p m hf hp hm) (by first|(simp only[go_sem];rfl)|rfl) (by intro n;first|(simp (disch:=omega) only[go_sem];rfl)|rfl) ?_;intro n hn)|refine st_gT rfl rfl rfl ?_|refine st_gF rfl rfl rfl ?_|(refine st_gS rfl rfl ?_ ?_ <;> intro hg <;> (try simp only[decide_eq_true_eq,decide_eq_false_iff_not,Bool.not_eq_true',Bool.not_eq_false'] at hg))|refine st_nil ?_|refine st_ret ?_)
  all_goals
    simp (disch:=omega) only[AEnd,Tryz.results118,aresK,fin,go_sem,↓reduceIte,reduceEqDiff,reduceAdd,reduceLeDiff,if_yes,if_no,implies_true,true_and,and_true,List.reverse_cons,List.reverse_nil]
    all_goals simp [sP, *]
def sV (f:Fl) (p m:Int):Int:=if sP wL f p m then 1 else if sP wH f p m then 3 else 2
theorem c92 (f:Fl) (p m:Int) (hf:FlOk f) (hp:0≤p∧p≤3000) (hm:0≤m∧m≤100000):Pure Tryz.prog 92 [Tk.av f p m] (fun v=>v=.int .i64 (sV f p m)):=by
  intro h
  refine ACalls.forget (ACalls.of tab mixed Tryz.call92 Tryz.func92 rfl (fi:=⟨10,[],[1],none,[]⟩) rfl rfl (Nat.le_of_ble_eq_true rfl) (by decide) ?_)
  unfold startA
  simp only[go_sem]
  repeat' (first|refine st_seq_reg rfl (by first|(simp only[go_sem];rfl)|rfl) (by first|(simp only[go_sem];rfl)|rfl) ?_|refine st_op ?_|refine st_det rfl (by simp (disch:=omega) only[go_sem,wr_i64,if_yes,if_no,↓reduceIte,reduceAdd,reduceMul,reduceEqDiff,Nat.reduceBEq,reduceLeDiff];rfl) ?_|(refine st_pureV (by first|(simp only[go_sem];rfl)|rfl) (by first|(simp (disch:=omega) only[go_sem];rfl)|rfl) rfl (c118a f p m hf hp hm) (by first|(simp only[go_sem];rfl)|rfl) (by intro n;first|(simp (disch:=omega) only[go_sem];rfl)|rfl) ?_;intro v n hv hn;subst hv)|(refine st_pureV (by first|(simp only[go_sem];rfl)|rfl) (by first|(simp (disch:=omega) only[go_sem];rfl)|rfl) rfl (c118b f p m hf hp hm) (by first|(simp only[go_sem];rfl)|rfl) (by intro n;first|(simp (disch:=omega) only[go_sem];rfl)|rfl) ?_;intro v n hv hn;subst hv)|(refine st_pureE (by first|(simp (disch:=omega) only[go_sem];rfl)|rfl) rfl (c121 _ _) (by first|(simp only[go_sem];rfl)|rfl) (by intro n;first|(simp (disch:=omega) only[go_sem];rfl)|rfl) ?_;intro n hn)|refine st_nil ?_|refine st_ret ?_)
  simp (disch:=omega) only[AEnd,Tryz.results92,aresK,fin,go_sem,↓reduceIte,reduceEqDiff,reduceAdd,reduceLeDiff,if_yes,if_no,implies_true,true_and,and_true,List.reverse_cons,List.reverse_nil]
  simp [sV]
theorem bothOk {f:Fl} {r:List Hu} (h:bothE f r=0):FlOk f∧(∀ x ∈ r,HuOk x)∧r.length≤40∧chkE f=0∧routeE r=0:=by
  have hc0:chkE f=0:=by unfold bothE at h;split at h <;> omega
  have hr0:routeE r=0:=by unfold bothE at h;split at h <;> omega
  exact ⟨chkOk hc0,routeOk hr0,routeLen hr0,hc0,hr0⟩
def stopR (f:Fl) (r:List Hu) (v:AV):Prop :=
  if bothE f r ≠ 0 then v=.tup [.int .i64 0,.int .i64 (bothE f r)] else
  ∃ k:Int,v=.tup [.int .i64 k,.int .i64 0]∧((k = -1∧∀ j,j < r.length→pV f 0 0 (hu r j)=1) ∨ ∃ j:Nat,j < r.length∧k=j∧pV f 0 0 (hu r j) ≠ 1∧∀ i,i < j→pV f 0 0 (hu r i)=1)
theorem c56 (f:Fl) (r:List Hu):Pure Tryz.prog 56 [f.av,.lst 3 (r.map Hu.row)] (stopR f r):=by
  intro h
  refine ACalls.forget ?_
  have hne0:∀ b':Nat × Nat,b'.1 < h.clk→¬ b'=(h.clk,4):=fun b' hb' e=>by rw [e] at hb';exact absurd hb' (Nat.lt_irrefl _)
  have hne1:∀ b':Nat × Nat,b'.1 < h.clk→¬ b'=(h.clk,5):=fun b' hb' e=>by rw [e] at hb';exact absurd hb' (Nat.lt_irrefl _)
  refine ACalls.of tab mixed Tryz.call56 Tryz.func56 rfl (fi:=⟨24,[],[2],none,[]⟩) rfl rfl (Nat.le_of_ble_eq_true rfl) (by decide) ?_
  unfold startA
  simp only[go_sem]
  repeat' (first|refine st_seq_reg rfl (by first|(simp only[go_sem];rfl)|rfl) (by first|(simp only[go_sem];rfl)|rfl) ?_|refine st_op ?_|refine st_det rfl (by simp (disch:=omega) only[go_sem,wr_i64,if_yes,if_no,↓reduceIte,reduceAdd,reduceMul,reduceEqDiff,Nat.reduceBEq,reduceLeDiff];rfl) ?_|refine st_heap rfl (by simp (disch:=omega) only[go_sem,wr_i64,if_yes,if_no,↓reduceIte,reduceAdd,reduceMul,reduceEqDiff,Nat.reduceBEq,reduceLeDiff];rfl) ?_|refine st_store (by simp (disch:=omega) only[go_sem,wr_i64,if_yes,if_no,↓reduceIte,reduceAdd,reduceMul,reduceEqDiff,Nat.reduceBEq,reduceLeDiff];rfl) ?_|(refine st_pureE (by first|(simp (disch:=omega) only[go_sem];rfl)|rfl) rfl (c93 f r) (by first|(simp only[go_sem];rfl)|rfl) (by intro n;first|(simp (disch:=omega) only[go_sem];rfl)|rfl) ?_;intro n hn)|(refine st_pureE (by first|(simp (disch:=omega) only[go_sem];rfl)|rfl) rfl (c94 f 0 0 r) (by first|(simp only[go_sem];rfl)|rfl) (by intro n;first|(simp (disch:=omega) only[go_sem];rfl)|rfl) ?_;intro n hn)|(refine st_condS rfl ?_ ?_ <;> intro hg <;> (try simp only[decide_eq_true_eq,decide_eq_false_iff_not,Bool.not_eq_true',Bool.not_eq_false'] at hg))|refine st_nil ?_|refine st_tN ?_|refine st_seq ?_|refine st_block ?_|refine st_skip ?_|refine st_ret ?_|refine st_tR ?_)
  · simp (disch:=omega) only[AEnd,Tryz.results56,aresK,fin,go_sem,↓reduceIte,reduceEqDiff,reduceAdd,reduceLeDiff,if_yes,if_no,implies_true,true_and,and_true,List.reverse_cons,List.reverse_nil]
    refine ⟨fun b' hb'=>?_,by simp [stopR,hg]⟩
    simp only[hne0 b' hb',hne1 b' hb',if_false,↓reduceIte]
  have hb:bothE f r=0:=by omega
  obtain ⟨hf,hr,hl,_,_⟩:=bothOk hb
  have hS:∀ v,(∃ k:Int,v=.tup [.int .i64 k,.int .i64 0]∧((k = -1∧∀ j,j < r.length→pV f 0 0 (hu r j)=1) ∨ ∃ j:Nat,j < r.length∧k=j∧pV f 0 0 (hu r j) ≠ 1∧∀ i,i < j→pV f 0 0 (hu r i)=1))→stopR f r v:=fun v hv=>by unfold stopR;rw [if_neg (by omega)];exact hv
  refine st_rangeFunc rfl (by simp only[go_sem];rfl) (fun l D R hR hlp=>?_)
  simp only[go_sem] at hlp
  let J:AH→Prop:=fun g=>(∀ b':Bid,b'.1 < h.clk→g.at_ b'=h.at_ b')∧(∀ l',l' ≠ l→g.lp l'=h.lp l')
  let I:Nat→AH→Prop:=fun i g=>g.lp l=some R∧J g∧g.at_ (h.clk,4)=some ⟨1,[[.int .i64 0]]⟩∧g.at_ (h.clk,5)=some ⟨1,[[.int .i64 0]]⟩∧∀ j,j < i→pV f 0 0 (hu r j)=1
  let E:AH→Prop:=fun g=>g.lp l=some (R.stop .ret)∧J g∧∃ j:Nat,j < r.length∧g.at_ (h.clk,4)=some ⟨1,[[.int .i64 j]]⟩∧g.at_ (h.clk,5)=some ⟨1,[[.int .i64 0]]⟩∧pV f 0 0 (hu r j) ≠ 1∧∀ i,i < j→pV f 0 0 (hu r i)=1
  refine (c123 f 0 0 r l hf (by omega) (by omega) hr (by omega) I E ?_ ?_ ?_ _ ?_).mono ?_
  · exact fun i g n h _=>h
  · exact fun g n h _=>h
  · rintro i g hi ⟨h1,⟨h2,h3⟩,h4,h4',h5⟩
    refine AYields.canon tab mixed [] [2] [] hR h1 rfl (by intro p hp;simp at hp;rcases hp with rfl|rfl <;> decide) [(19,.int .i64 i),(20,.int .i64 (pV f 0 0 (hu r i))),(4,.ptr (h.clk,4) 0 0),(5,.ptr (h.clk,5) 0 0)] ⟨rfl,rfl,rfl,rfl,trivial⟩ rfl rfl ?_
    simp only[go_sem]
    repeat' (first|refine st_seq_reg rfl (by first|(simp only[go_sem];rfl)|rfl) (by first|(simp only[go_sem];rfl)|rfl) ?_|refine st_reg rfl (by first|(simp only[go_sem];rfl)|rfl) (by first|(simp only[go_sem];rfl)|rfl) ?_|refine st_op ?_|refine st_det rfl (by simp (disch:=omega) only[go_sem,wr_i64,if_yes,if_no,↓reduceIte,reduceAdd,reduceMul,reduceEqDiff,Nat.reduceBEq,reduceLeDiff];rfl) ?_|refine st_nil ?_|refine st_tN ?_)
    refine ⟨h1,?_⟩
    dsimp only
    repeat' (first|refine st_seq_reg rfl (by first|(simp only[go_sem,h4,h4'];rfl)|rfl) (by first|(simp only[go_sem,h4,h4'];rfl)|rfl) ?_|refine st_op ?_|refine st_det rfl (by simp (disch:=omega) only[go_sem,wr_i64,if_yes,if_no,↓reduceIte,reduceAdd,reduceMul,reduceEqDiff,Nat.reduceBEq,reduceLeDiff,h4,h4'];rfl) ?_|refine st_store (by simp (disch:=omega) only[go_sem,wr_i64,if_yes,if_no,↓reduceIte,reduceAdd,reduceMul,reduceEqDiff,Nat.reduceBEq,reduceLeDiff,h4,h4'];rfl) ?_|(refine st_condS rfl ?_ ?_ <;> intro hg <;> (try simp only[decide_eq_true_eq,decide_eq_false_iff_not,Bool.not_eq_true',Bool.not_eq_false'] at hg))|refine st_nil ?_|refine st_block ?_|refine st_skip ?_|refine st_ret ?_|refine st_bN ?_|refine st_bR ?_)
    · refine ⟨by simp only[go_sem],.inr ⟨rfl,lpSet_same _ _ _,⟨fun b' hb'=>?_,fun l' hl'=>?_⟩,i,hi,?_,?_,hg,h5⟩⟩
      · simp only[go_sem];rw [if_neg (hne1 b' hb'),if_neg (hne0 b' hb')];exact h2 b' hb'
      · rw [lpSet_ne _ _ hl'];simp only[go_sem];rw [lpSet_ne _ _ hl'];exact h3 l' hl'
      · simp (disch:=omega) only[go_sem,↓reduceIte,reduceEqDiff,reduceLeDiff] <;> rfl
      · simp (disch:=omega) only[go_sem,↓reduceIte,reduceEqDiff,reduceLeDiff] <;> rfl
    · refine ⟨by simp only[go_sem],.inl ⟨rfl,lpSet_same _ _ _,⟨fun b' hb'=>h2 b' hb',fun l' hl'=>?_⟩,h4,h4',fun j hj=>?_⟩⟩
      · rw [lpSet_ne _ _ hl'];simp only[go_sem];rw [lpSet_ne _ _ hl'];exact h3 l' hl'
      · by_cases e:j=i
        · rw [e];exact Decidable.of_not_not hg
        · exact h5 j (by omega)
  · exact ⟨lpSet_same _ _ _,⟨fun b' hb'=>by simp only[go_sem];rw [if_neg (hne1 b' hb'),if_neg (hne0 b' hb')],fun l' hl'=>by rw [lpSet_ne _ _ hl'];rfl⟩,by simp (disch:=omega) only[go_sem,↓reduceIte,reduceEqDiff,reduceLeDiff] <;> rfl,by simp (disch:=omega) only[go_sem,↓reduceIte,reduceEqDiff,reduceLeDiff] <;> rfl,fun j hj=>absurd hj (Nat.not_lt_zero _)⟩
  · have hlp2:∀ h':AH,(∀ l',l' ≠ l→h'.lp l'=h.lp l')→(h'.lpSet l none).lp=h.lp:=by
      intro h' h3
      funext l'
      by_cases e:l'=l
      · rw [e,lpSet_same,hlp]
      · rw [lpSet_ne _ _ e];exact h3 l' e
    rintro v h' (⟨h1,⟨h2,h3⟩,h4,h4',h5⟩|⟨h1,⟨h2,h3⟩,j,hj,h4,h4',h5,h6⟩)
    · refine .inl ⟨h1,st_bN (st_tN ?_)⟩
      repeat' (first|refine st_seq_reg rfl (by first|(simp only[go_sem,h4,h4'];rfl)|rfl) (by first|(simp only[go_sem,h4,h4'];rfl)|rfl) ?_|refine st_op ?_|refine st_store (by simp (disch:=omega) only[go_sem,wr_i64,if_yes,if_no,↓reduceIte,reduceAdd,reduceMul,reduceEqDiff,Nat.reduceBEq,reduceLeDiff,h4,h4'];rfl) ?_|refine st_nil ?_|refine st_ret ?_)
      simp (disch:=omega) only[AEnd,Tryz.results56,aresK,fin,go_sem,↓reduceIte,reduceEqDiff,reduceAdd,reduceLeDiff,if_yes,if_no,implies_true,true_and,and_true,List.reverse_cons,List.reverse_nil,hlp2 h' h3]
      refine ⟨fun b' hb'=>?_,hS _ ⟨-1,rfl,.inl ⟨rfl,h5⟩⟩⟩
      rw [if_neg (hne1 b' hb'),if_neg (hne0 b' hb')];exact h2 b' hb'
    · refine .inr ⟨.ret,h1,ASem.ret (st_bR (st_tR ?_))⟩
      simp (disch:=omega) only[AEnd,Tryz.results56,aresK,fin,go_sem,↓reduceIte,reduceEqDiff,reduceAdd,reduceLeDiff,if_yes,if_no,implies_true,true_and,and_true,List.reverse_cons,List.reverse_nil,hlp2 h' h3,h4,h4']
      exact ⟨h2,hS _ ⟨j,rfl,.inr ⟨j,hj,rfl,h5,h6⟩⟩⟩
theorem c55 (f:Fl) (h0:chkE f=0):Pure Tryz.prog 55 [f.av] (fun v=>v=.tup [.int .i64 (sV f 0 0),.int .i64 0]):=by
  have hf:=chkOk h0
  intro h
  refine ACalls.forget (ACalls.of tab mixed Tryz.call55 Tryz.func55 rfl (fi:=⟨13,[],[1],none,[]⟩) rfl rfl (Nat.le_of_ble_eq_true rfl) (by decide) ?_)
  unfold startA
  simp only[go_sem]
  repeat' (first|refine st_seq_reg rfl (by first|(simp only[go_sem];rfl)|rfl) (by first|(simp only[go_sem];rfl)|rfl) ?_|refine st_op ?_|refine st_det rfl (by simp (disch:=omega) only[go_sem,wr_i64,if_yes,if_no,↓reduceIte,reduceAdd,reduceMul,reduceEqDiff,Nat.reduceBEq,reduceLeDiff];rfl) ?_|(refine st_pureE (by first|(simp (disch:=omega) only[go_sem];rfl)|rfl) rfl (c91 f) (by first|(simp only[go_sem];rfl)|rfl) (by intro n;first|(simp (disch:=omega) only[go_sem];rfl)|rfl) ?_;intro n hn)|(refine st_pureE (by first|(simp (disch:=omega) only[go_sem];rfl)|rfl) rfl (c92 f 0 0 hf (by omega) (by omega)) (by first|(simp only[go_sem];rfl)|rfl) (by intro n;first|(simp (disch:=omega) only[go_sem];rfl)|rfl) ?_;intro n hn)|(refine st_condS rfl ?_ ?_ <;> intro hg <;> (try simp only[decide_eq_true_eq,decide_eq_false_iff_not,Bool.not_eq_true',Bool.not_eq_false'] at hg))|refine st_nil ?_|refine st_tN ?_|refine st_seq ?_|refine st_skip ?_|refine st_ret ?_|refine st_tR ?_)
  · exact absurd h0 (by omega)
  · simp (disch:=omega) only[AEnd,Tryz.results55,aresK,fin,go_sem,↓reduceIte,reduceEqDiff,reduceAdd,reduceLeDiff,if_yes,if_no,implies_true,true_and,and_true,List.reverse_cons,List.reverse_nil]
def staI (f:Fl):Int:=if chkE f=0 then sV f 0 0 else 0
theorem c55u (f:Fl):Pure Tryz.prog 55 [f.av] (fun v=>v=.tup [.int .i64 (staI f),.int .i64 (chkE f)]):=by
  by_cases h0:chkE f=0
  · have h:=c55 f h0
    unfold staI
    rw [if_pos h0,h0];exact h
  · intro h
    refine ACalls.forget (ACalls.of tab mixed Tryz.call55 Tryz.func55 rfl (fi:=⟨13,[],[1],none,[]⟩) rfl rfl (Nat.le_of_ble_eq_true rfl) (by decide) ?_)
    unfold startA
    simp only[go_sem]
    repeat' (first|refine st_seq_reg rfl (by first|(simp only[go_sem];rfl)|rfl) (by first|(simp only[go_sem];rfl)|rfl) ?_|refine st_op ?_|refine st_det rfl (by simp (disch:=omega) only[go_sem,wr_i64,if_yes,if_no,↓reduceIte,reduceAdd,reduceMul,reduceEqDiff,Nat.reduceBEq,reduceLeDiff];rfl) ?_|(refine st_pureE (by first|(simp (disch:=omega) only[go_sem];rfl)|rfl) rfl (c91 f) (by first|(simp only[go_sem];rfl)|rfl) (by intro n;first|(simp (disch:=omega) only[go_sem];rfl)|rfl) ?_;intro n hn)|(refine st_condS rfl ?_ ?_ <;> intro hg <;> (try simp only[decide_eq_true_eq,decide_eq_false_iff_not,Bool.not_eq_true',Bool.not_eq_false'] at hg))|refine st_nil ?_|refine st_tN ?_|refine st_seq ?_|refine st_skip ?_|refine st_ret ?_|refine st_tR ?_)
    all_goals try (exfalso;omega)
    simp (disch:=omega) only[AEnd,Tryz.results55,aresK,fin,go_sem,↓reduceIte,reduceEqDiff,reduceAdd,reduceLeDiff,if_yes,if_no,implies_true,true_and,and_true,List.reverse_cons,List.reverse_nil]
    simp [staI,h0]
def allP (f:Fl) (r:List Hu):Bool:=(List.range r.length).all fun j=>decide (pV f 0 0 (hu r j)=1)
theorem c56u (f:Fl) (r:List Hu):Pure Tryz.prog 56 [f.av,.lst 3 (r.map Hu.row)] (fun v=>∃ k:Int,v=.tup [.int .i64 k,.int .i64 (bothE f r)]∧(bothE f r=0→(k < 0 ↔ allP f r=true))):=by
  intro h
  refine (c56 f r h).mono fun v h' ⟨q1,q2⟩=>⟨q1,?_⟩
  unfold stopR at q2
  split at q2
  · rename_i hb;exact ⟨0,q2,fun e=>absurd e hb⟩
  · rename_i hb
    have hb:=Decidable.of_not_not hb
    obtain ⟨k,e,hk⟩:=q2
    refine ⟨k,by rw [hb];exact e,fun _=>?_⟩
    unfold allP
    rw [List.all_eq_true]
    simp only[List.mem_range,decide_eq_true_eq]
    rcases hk with ⟨rfl,h1⟩|⟨j,hj,rfl,h1,_⟩
    · exact ⟨fun _=>h1,fun _=>by decide⟩
    · exact ⟨fun h2=>by omega,fun h2=>absurd (h2 j hj) h1⟩
def withL (f:Fl) (L:List Ld):Fl:={ f with loads:=L }
def fitB (r:List Hu) (f:Fl) (L:List Ld):Bool:=decide (chkE (withL f L)=0) && decide (bothE (withL f L) r=0) && decide (staI (withL f L)=1) && allP (withL f L) r
theorem c54 (r:List Hu) (f:Fl) (L:List Ld):Pure Tryz.prog 54 [f.av,.lst 7 (L.map Ld.row),.iptr [.lst 3 (r.map Hu.row)] 0] (fun v=>v=.bool (fitB r f L)):=by
  intro h
  refine ACalls.forget (ACalls.of tab mixed Tryz.call54 Tryz.func54 rfl (fi:=⟨37,[3],[],none,[]⟩) rfl rfl (Nat.le_of_ble_eq_true rfl) (by decide) ?_)
  unfold startA
  simp only[go_sem]
  repeat' (first|refine st_seq_reg rfl (by first|(simp only[go_sem];rfl)|rfl) (by first|(simp only[go_sem];rfl)|rfl) ?_|refine st_op ?_|refine st_det rfl (by simp (disch:=omega) only[go_sem,wr_i64,if_yes,if_no,↓reduceIte,reduceAdd,reduceMul,reduceEqDiff,Nat.reduceBEq,reduceLeDiff];rfl) ?_|refine st_loc rfl (by simp (disch:=omega) only[go_sem,wr_i64,if_yes,if_no,↓reduceIte,reduceAdd,reduceMul,reduceEqDiff,Nat.reduceBEq,reduceLeDiff];rfl) ?_|refine st_store (by simp (disch:=omega) only[go_sem,wr_i64,if_yes,if_no,↓reduceIte,reduceAdd,reduceMul,reduceEqDiff,Nat.reduceBEq,reduceLeDiff];rfl) ?_|(refine st_pureE (by first|(simp (disch:=omega) only[go_sem];rfl)|rfl) rfl (c55u (withL f L)) (by first|(simp only[go_sem];rfl)|rfl) (by intro n;first|(simp (disch:=omega) only[go_sem];rfl)|rfl) ?_;intro n hn)|(refine st_pure (by first|(simp (disch:=omega) only[go_sem];rfl)|rfl) rfl (c56u (withL f L) r) (by first|(simp only[go_sem];rfl)|rfl) (by intro n;first|(simp (disch:=omega) only[go_sem];rfl)|rfl) ?_;rintro v n ⟨k,rfl,hk⟩ hn)|refine st_gT rfl rfl rfl ?_|refine st_gF rfl rfl rfl ?_|(refine st_gS rfl rfl ?_ ?_ <;> intro hg <;> (try simp only[decide_eq_true_eq,decide_eq_false_iff_not,Bool.not_eq_true',Bool.not_eq_false'] at hg))|refine st_nil ?_|refine st_ret ?_)
  all_goals
    simp (disch:=omega) only[AEnd,Tryz.results54,aresK,fin,go_sem,↓reduceIte,reduceEqDiff,reduceAdd,reduceLeDiff,if_yes,if_no,implies_true,true_and,and_true,List.reverse_cons,List.reverse_nil]
    try simp [fitB, *]
end Go.Proofs.YtaijkalhkgjakaaGreatDoor
