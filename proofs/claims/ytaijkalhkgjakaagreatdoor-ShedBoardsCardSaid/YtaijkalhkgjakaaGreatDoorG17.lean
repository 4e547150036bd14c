/- Contracts of functions that the claim reaches: what each call gives, told in our own logic. Conditions: those of each theorem. -/
import Derived.Test.YtaijkalhkgjakaaGreatDoorF1
import Derived.Test.YtaijkalhkgjakaaGreatDoorW3
import Derived.Test.YtaijkalhkgjakaaGreatDoorW12
import Derived.Test.YtaijkalhkgjakaaGreatDoorG16
set_option linter.all false
set_option linter.unusedSimpArgs false
set_option linter.unusedVariables false
namespace Go.Proofs.YtaijkalhkgjakaaGreatDoor
open Go.Av
attribute [local irreducible] thenA blockA awp awpOps awpD awp1
attribute [local go_sem_proc] Nat.reduceAdd Nat.reduceMul Nat.reduceEqDiff Nat.reduceBEq Nat.reduceLeDiff
attribute [local go_sem_proc ↓] reduceIte
attribute [local go_sem] if_yes if_no
set_option maxHeartbeats 8000000
set_option maxRecDepth 20000
theorem wr_u64 (n:Int):isU64 (wr .u64 n):=by
 unfold isU64 wr IntKind.wrap
 simp only[IntKind.signed,IntKind.bits,Bool.false_and,Bool.false_eq_true,if_false]
 omega
theorem xor_u64 (a b:Int):isU64 (bitop .xor .u64 a b):=wr_u64 _
theorem st_u64 {P:Program} {tt:Nat→TI} {fi:FI} {k0:Nat} {K:AS→Prop} {T:Nat→AV} {B:Bid→Option (List AV)} {M:List Nat} {H:AH} {d:Tmp} {op:Op} {t:TypeId} {p:String} {a:Array Edge} {g:Option (Nat × Bool)} {v:Int} (hd:isDet ⟨some d,op,t,p,a,g⟩=true) (h:dres tt fi k0 ⟨some d,op,t,p,a,g⟩ ⟨T,B,M,H⟩=some (.int .u64 v,.none)) (hv:isU64 v) (hk:∀ y,isU64 y→K ⟨upd T d (.int .u64 y),B,M,H⟩) :
  awp1 P tt fi k0 ⟨some d,op,t,p,a,g⟩ ⟨T,B,M,H⟩ K:=st_det hd h (hk v hv)
theorem c44 (b:Nat × Nat):Drum Tryz.prog 44 [.ptr b 0 0] b (fun v=>∃ y,isU64 y∧v=.int .u64 y):=by
 refine Drum.of Tryz.call44 fun h x hx hu hold=>?_
 refine ACalls.of tab mixed Tryz.call44 Tryz.func44 rfl (fi:=⟨31,[],[],none,[]⟩) rfl rfl (Nat.le_of_ble_eq_true rfl) (by decide) ?_
 unfold startA
 simp only[dr] at hx ⊢
 repeat' (first|refine st_seq_reg rfl (by first|(simp only[go_sem,hx];rfl)|rfl) (by first|(simp only[go_sem,hx];rfl)|rfl) ?_|refine st_op ?_|(refine st_u64 rfl (by simp (disch:=omega) only[go_sem,wr_i64,hx];rfl) (by first|exact wr_u64 _|exact xor_u64 _ _) ?_;intro y hy)|refine st_det rfl (by simp (disch:=omega) only[go_sem,wr_i64,hx];rfl) ?_|refine st_store (by simp (disch:=omega) only[go_sem,wr_i64,hx];rfl) ?_|refine st_nil ?_|refine st_ret ?_)
 simp (disch:=omega) only[AEnd,Tryz.results44,aresK,fin,go_sem,implies_true,true_and,and_true,List.reverse_cons,List.reverse_nil]
 exact ⟨fun b' _ hn=>if_neg hn,⟨_,rfl,by assumption⟩,⟨_,by assumption,rfl⟩⟩
theorem wr_u64i {n:Int} (h:0≤n∧n < 18446744073709551616):wr .u64 n=n:=by
 unfold wr IntKind.wrap
 simp only[IntKind.signed,IntKind.bits,Bool.false_and,Bool.false_eq_true,if_false]
 omega
theorem roll_bd {y n:Int} (hy:isU64 y) (hn:2≤n):0≤(shr .u64 y 1).tmod n∧(shr .u64 y 1).tmod n < n:=by
 have h:0≤shr .u64 y 1:=by
  unfold shr
  rw [Int.fdiv_eq_ediv_of_nonneg _ (by decide)]
  have:=hy.1
  exact Int.ediv_nonneg this (by decide)
 exact ⟨Int.tmod_nonneg _ h,Int.tmod_lt_of_pos _ (by omega)⟩
def Rolls (n:Int) (v:AV):Prop:=∃ r,v=.int .i64 r∧0≤r∧(r < n ∨ r=0)
theorem c45 (b:Nat × Nat) (N:Int) (hN:N≤1000000000):Drum Tryz.prog 45 [.ptr b 0 0,.int .i64 N] b (Rolls N):=by
 refine Drum.of Tryz.call45 fun h x hx hu hold=>?_
 refine ACalls.of tab mixed Tryz.call45 Tryz.func45 rfl (fi:=⟨14,[],[],none,[]⟩) rfl rfl (Nat.le_of_ble_eq_true rfl) (by decide) ?_
 unfold startA
 repeat' (first|refine st_seq_reg rfl (by first|(simp only[go_sem,hx,wr_u64i];rfl)|rfl) (by first|(simp only[go_sem,hx,wr_u64i];rfl)|rfl) ?_|refine st_op ?_|refine st_det rfl (by simp (disch:=omega) only[go_sem,wr_i64,hx,wr_u64i];rfl) ?_|(refine st_drum (by first|(simp (disch:=omega) only[go_sem];rfl)|(simp (disch:=omega) only[go_sem])) rfl (c44 b) (by simp (disch:=omega) only[go_sem];exact hx) hu (by first|(simp only[go_sem];rfl)|rfl) (by intro x' n;simp (disch:=omega) only[go_sem];rfl) ?_;rintro v x' n hu' ⟨y,hy,rfl⟩ hn;have hr:=roll_bd hy (by omega:2≤N))|(refine st_condS rfl ?_ ?_ <;> intro hg <;> (try simp only[dcT,dcF,bnT,bnF] at hg))|refine st_nil ?_|refine st_tN ?_|refine st_seq ?_|refine st_skip ?_|refine st_ret ?_|refine st_tR ?_)
 ·simp (disch:=omega) only[AEnd,Tryz.results45,aresK,fin,go_sem,implies_true,true_and,and_true,List.reverse_cons,List.reverse_nil]
  exact ⟨⟨x,hx,hu⟩,⟨0,rfl,by omega,by omega⟩⟩
 ·simp (disch:=omega) only[AEnd,Tryz.results45,aresK,fin,go_sem,implies_true,true_and,and_true,List.reverse_cons,List.reverse_nil]
  exact ⟨fun b' _ h2=>if_neg h2,⟨_,rfl,hu'⟩,⟨_,rfl,by omega,by omega⟩⟩
theorem c48 (b:Nat × Nat) (lo hi:Int) (h1:-1000000000≤lo∧lo≤1000000000) (h2:lo - 1≤hi∧hi - lo < 1000000000):Drum Tryz.prog 48 [.ptr b 0 0,.int .i64 lo,.int .i64 hi] b (fun v=>∃ r,v=.int .i64 r∧lo≤r∧(r≤hi ∨ r=lo)):=by
 refine Drum.of Tryz.call48 fun h x hx hu hold=>?_
 refine ACalls.of tab mixed Tryz.call48 Tryz.func48 rfl (fi:=⟨15,[],[],none,[]⟩) rfl rfl (Nat.le_of_ble_eq_true rfl) (by decide) ?_
 unfold startA
 repeat' (first|refine st_seq_reg rfl (by first|(simp only[go_sem,hx];rfl)|rfl) (by first|(simp only[go_sem,hx];rfl)|rfl) ?_|refine st_op ?_|refine st_det rfl (by simp (disch:=omega) only[go_sem,wr_i64,hx];rfl) ?_|(refine st_drum (by first|(simp (disch:=omega) only[go_sem,hx];rfl)|rfl) rfl (c45 b _ (by omega)) (by first|(simp (disch:=omega) only[go_sem,hx];rfl)|rfl|exact put_same _ _ _) (by assumption) (by first|(simp only[go_sem,hx];rfl)|rfl) (by intro x' n;first|(simp (disch:=omega) only[go_sem];rfl)|rfl) ?_;rintro v x' n hu' ⟨r,rfl,hr1,hr2⟩ hn)|refine st_nil ?_|refine st_ret ?_)
 simp (disch:=omega) only[AEnd,Tryz.results48,aresK,fin,go_sem,implies_true,true_and,and_true,List.reverse_cons,List.reverse_nil]
 exact ⟨fun b' _ h2=>if_neg h2,⟨_,rfl,hu'⟩,⟨_,rfl,by omega,by omega⟩⟩
theorem c50 (b:Nat × Nat) (es:List Int) (h1:es ≠ []) (h2:(es.length:Int)≤1000):Drum Tryz.prog 50 [.ptr b 0 0,.lst 1 (es.map iv)] b (fun v=>∃ r,v=.int .i64 r∧r ∈ es):=by
 have h3:0 < es.length:=List.length_pos_iff.2 h1
 refine Drum.of Tryz.call50 fun h x hx hu hold=>?_
 refine ACalls.of tab mixed Tryz.call50 Tryz.func50 rfl (fi:=⟨15,[],[],none,[]⟩) rfl rfl (Nat.le_of_ble_eq_true rfl) (by decide) ?_
 unfold startA
 repeat' (first|refine st_seq_reg rfl (by first|(simp only[go_sem,hx];rfl)|rfl) (by first|(simp only[go_sem,hx];rfl)|rfl) ?_|refine st_op ?_|refine st_det rfl (by simp (disch:=omega) only[go_sem,wr_i64,hx];rfl) ?_|(refine st_drum (by first|(simp (disch:=omega) only[go_sem,hx];rfl)|rfl) rfl (c45 b _ (by omega)) (by first|(simp (disch:=omega) only[go_sem,hx];rfl)|rfl|exact put_same _ _ _) (by assumption) (by first|(simp only[go_sem,hx];rfl)|rfl) (by intro x' n;first|(simp (disch:=omega) only[go_sem];rfl)|rfl) ?_;rintro v x' n hu' ⟨r,rfl,hr1,hr2⟩ hn)|(refine st_condS rfl ?_ ?_ <;> intro hg <;> (try simp only[dcT,dcF,bnT,bnF] at hg))|refine st_nil ?_|refine st_tN ?_|refine st_seq ?_|refine st_skip ?_|refine st_ret ?_|refine st_tR ?_)
 ·omega
 ·simp (disch:=omega) only[AEnd,Tryz.results50,aresK,fin,go_sem,implies_true,true_and,and_true,List.reverse_cons,List.reverse_nil]
  exact ⟨fun b' _ h2=>if_neg h2,⟨_,rfl,hu'⟩,⟨_,rfl,by rw [List.getD_eq_getElem?_getD,List.getElem?_eq_getElem (by omega:r.toNat < es.length)];exact List.getElem_mem _⟩⟩
theorem c50b (b:Nat × Nat) (x y:Int):Drum Tryz.prog 50 [.ptr b 0 0,.lst 1 [[.int .i64 x],[.int .i64 y]]] b (fun v=>∃ r,v=.int .i64 r∧(r=x ∨ r=y)):=by
 have h:=c50 b [x,y] (by simp) (by simp)
 simpa [iv] using h
theorem c49 (b:Nat × Nat) (lo hi:Int) (h1:0≤lo) (h2:lo≤hi) (h3:hi≤100000000):Drum Tryz.prog 49 [.ptr b 0 0,.int .i64 lo,.int .i64 hi] b (fun v=>∃ r q,v=.agg [.int .i64 r,.int .i64 q]∧lo≤r∧r≤q∧q≤hi):=by
 refine Drum.of Tryz.call49 fun h x hx hu hold=>?_
 refine ACalls.of tab mixed Tryz.call49 Tryz.func49 rfl (fi:=⟨36,[6],[],none,[]⟩) rfl rfl (Nat.le_of_ble_eq_true rfl) (by decide) ?_
 unfold startA
 repeat' (first|refine st_seq_reg rfl (by first|(simp only[go_sem,hx];rfl)|rfl) (by first|(simp only[go_sem,hx];rfl)|rfl) ?_|refine st_op ?_|refine st_det rfl (by simp (disch:=omega) only[go_sem,wr_i64,hx];rfl) ?_|refine st_loc rfl (by simp (disch:=omega) only[go_sem,wr_i64,hx];rfl) ?_|refine st_store (by simp (disch:=omega) only[go_sem,wr_i64,hx];rfl) ?_|(refine st_drum (by first|(simp (disch:=omega) only[go_sem,hx];rfl)|rfl) rfl (c45 b _ (by omega)) (by first|(simp (disch:=omega) only[go_sem,hx];rfl)|rfl|exact put_same _ _ _) (by assumption) (by first|(simp only[go_sem,hx];rfl)|rfl) (by intro x' n;first|(simp (disch:=omega) only[go_sem];rfl)|rfl) ?_;rintro v x' n hu' ⟨r,rfl,hr1,hr2⟩ hn)|(refine st_drum (by first|(simp (disch:=omega) only[go_sem,hx];rfl)|rfl) rfl (c48 b _ _ (by omega) (by omega)) (by first|(simp (disch:=omega) only[go_sem,hx];rfl)|rfl|exact put_same _ _ _) (by assumption) (by first|(simp only[go_sem,hx];rfl)|rfl) (by intro x' n;first|(simp (disch:=omega) only[go_sem];rfl)|rfl) ?_;rintro v x' n hu' ⟨r,rfl,hr1,hr2⟩ hn)|(refine st_condS rfl ?_ ?_ <;> intro hg <;> (try simp only[dcT,dcF,bnT,bnF] at hg))|refine st_nil ?_|refine st_tN ?_|refine st_seq ?_|refine st_block ?_|refine st_skip ?_|refine st_ret ?_|refine st_tR ?_|refine st_bN ?_|refine st_bR ?_)
 all_goals
  simp (disch:=omega) only[AEnd,Tryz.results49,aresK,fin,go_sem,implies_true,true_and,and_true,List.reverse_cons,List.reverse_nil]
  exact ⟨fun b' _ h2=>if_neg h2,⟨_,rfl,by assumption⟩,⟨_,_,rfl,by omega,by omega,by omega⟩⟩
end Go.Proofs.YtaijkalhkgjakaaGreatDoor

namespace Go.Proofs.YtaijkalhkgjakaaGreatDoor
open Go.Av Go.Txt Go.Lib
attribute [local irreducible] thenA blockA awp awpOps awpD awp1
attribute [local go_sem_proc] Nat.reduceAdd Nat.reduceMul Nat.reduceEqDiff Nat.reduceBEq Nat.reduceLeDiff
attribute [local go_sem_proc ↓] reduceIte
attribute [local go_sem] if_yes if_no
set_option maxHeartbeats 8000000
set_option maxRecDepth 20000
-- Fit
theorem c85 (x n:Int) (hx:-9223372036854775808≤x∧x≤9223372036854775807) (hn:0≤n∧n≤1000000):Pure Tryz.prog 85 [.int .i64 x,.int .i64 n] (fun v=>∃ r,v=.int .i64 r∧0≤r∧(1≤n→r < n)):=by
 have b1:2≤n→-n < x.tmod n∧x.tmod n < n:=fun h=>⟨Int.lt_tmod_of_pos x (by omega),Int.tmod_lt_of_pos x (by omega)⟩
 by_cases h2:2≤n
 ·have b2:=b1 h2
  intro h
  refine ACalls.forget (ACalls.of tab mixed Tryz.call85 Tryz.func85 rfl (fi:=⟨16,[],[],none,[]⟩) rfl rfl (Nat.le_of_ble_eq_true rfl) (by decide) ?_)
  unfold startA
  repeat' (first|refine st_seq_reg rfl (by first|(simp only[go_sem];rfl)|rfl) (by first|(simp only[go_sem];rfl)|rfl) ?_|refine st_reg rfl (by first|(simp only[go_sem];rfl)|rfl) (by first|(simp only[go_sem];rfl)|rfl) ?_|refine st_op ?_|refine st_det rfl (by simp (disch:=omega) only[go_sem,wr_i64];rfl) ?_|refine st_condT rfl ?_|refine st_condF rfl ?_|(refine st_condS rfl ?_ ?_ <;> intro hg <;> (try simp only[dcT,dcF,bnT,bnF] at hg))|refine st_nil ?_|refine st_tN ?_|refine st_seq ?_|refine st_skip ?_|refine st_ret ?_|refine st_tE ?_|refine st_tR ?_)
  all_goals try (exfalso;omega)
  all_goals
   simp (disch:=omega) only[AEnd,Tryz.results85,aresK,fin,go_sem,implies_true,true_and,and_true,List.reverse_cons,List.reverse_nil]
   exact ⟨_,rfl,by omega,by omega⟩
 ·intro h
  refine ACalls.forget (ACalls.of tab mixed Tryz.call85 Tryz.func85 rfl (fi:=⟨16,[],[],none,[]⟩) rfl rfl (Nat.le_of_ble_eq_true rfl) (by decide) ?_)
  unfold startA
  repeat' (first|refine st_seq_reg rfl (by first|(simp only[go_sem];rfl)|rfl) (by first|(simp only[go_sem];rfl)|rfl) ?_|refine st_reg rfl (by first|(simp only[go_sem];rfl)|rfl) (by first|(simp only[go_sem];rfl)|rfl) ?_|refine st_op ?_|refine st_det rfl (by simp (disch:=omega) only[go_sem,wr_i64];rfl) ?_|refine st_condT rfl ?_|refine st_condF rfl ?_|(refine st_condS rfl ?_ ?_ <;> intro hg <;> (try simp only[dcT,dcF,bnT,bnF] at hg))|refine st_nil ?_|refine st_tN ?_|refine st_seq ?_|refine st_skip ?_|refine st_ret ?_|refine st_tE ?_|refine st_tR ?_)
  all_goals try (exfalso;omega)
  simp (disch:=omega) only[AEnd,Tryz.results85,aresK,fin,go_sem,implies_true,true_and,and_true,List.reverse_cons,List.reverse_nil]
  exact ⟨_,rfl,by omega,by omega⟩
theorem conv1 (b:Int):aconvB tt 137 9 (.lst 1 [[.int .u8 b]])=some (.str [UInt8.ofNat b.toNat]):=rfl
theorem add_str2 {tt:Nat→TI} {t:Nat} {c:Bool} {a b:List UInt8} (h:a.length+b.length≤4611686018427387904):abin (tt t) .add c (.str a) (.str b)=some (.str (a ++ b)):=by
 unfold abin;dsimp only;rw [if_pos h]
theorem c40 (s:List UInt8) (at_ how b:Int) (hs:s.length≤1000000) (ha:-9223372036854775808≤at_∧at_≤9223372036854775807) (hh:-9223372036854775808≤how∧how≤9223372036854775807) :
  Pure Tryz.prog 40 [.str s,.int .i64 at_,.int .i64 how,.int .u8 b] (fun v=>∃ t,v=.str t∧t.length≤s.length+1):=by
 intro h
 by_cases h0:s=[]
 ·subst h0
  refine ACalls.forget (ACalls.of tab mixed Tryz.call40 Tryz.func40 rfl (fi:=⟨53,[],[18],none,[(7,[0,0,3,0,15,0,0,64,224,511,1023],[(0,false),(1,false),(2,false),(3,false),(4,false),(5,false),(6,false),(7,false),(8,false),(9,false),(10,false)]),(9,[0,0,3,0,0,16,56,127,255],[(0,false),(1,false),(2,false),(3,false),(4,false),(5,false),(6,false),(7,false),(8,false)]),(10,[0,0,3,0,15,0,0,96,255,511],[(0,false),(1,false),(2,false),(3,false),(4,false),(5,false),(6,false),(7,false),(8,false),(9,false)])]⟩) rfl rfl (Nat.le_of_ble_eq_true rfl) (by decide) ?_)
  unfold startA
  try simp only[go_sem]
  repeat' (first|refine st_seq_reg rfl (by first|(simp only[go_sem];rfl)|rfl) (by first|(simp only[go_sem];rfl)|rfl) ?_|refine st_reg rfl (by first|(simp only[go_sem];rfl)|rfl) (by first|(simp only[go_sem];rfl)|rfl) ?_|refine st_seq_draw rfl (by first|(simp only[go_sem];rfl)|rfl) (by first|(simp only[go_sem];rfl)|rfl) ?_|refine st_draw rfl (by first|(simp only[go_sem];rfl)|rfl) (by first|(simp only[go_sem];rfl)|rfl) ?_|refine st_op ?_|refine st_det rfl (by simp (disch:=omega) only[go_sem,wr_i64];rfl) ?_|refine st_dop rfl ?_|refine st_heap rfl (by simp (disch:=omega) only[go_sem,wr_i64];rfl) ?_|refine st_condT rfl ?_|refine st_condF rfl ?_|(refine st_condS rfl ?_ ?_ <;> intro hg <;> (try simp only[dcT,dcF,bnT,bnF] at hg))|refine st_nil ?_|refine st_dnil ?_|refine st_tN ?_|refine st_seq ?_|refine st_block ?_|refine st_skip ?_|refine st_exit ?_|refine st_ret ?_|refine st_tE ?_|refine st_tR ?_|refine st_bN ?_|refine st_bR ?_|refine st_bH ?_|refine st_bM rfl ?_)
  all_goals try (exfalso;omega)
  simp (disch:=omega) only[AEnd,Tryz.results40,aresK,fin,go_sem,implies_true,true_and,and_true,List.reverse_cons,List.reverse_nil]
  exact ⟨_,rfl,by simp⟩
 have hf:(s=[])=False:=eq_false h0
 have hpos:1≤s.length:=List.length_pos_iff.2 h0
 refine ACalls.forget (ACalls.of tab mixed Tryz.call40 Tryz.func40 rfl (fi:=⟨53,[],[18],none,[(7,[0,0,3,0,15,0,0,64,224,511,1023],[(0,false),(1,false),(2,false),(3,false),(4,false),(5,false),(6,false),(7,false),(8,false),(9,false),(10,false)]),(9,[0,0,3,0,0,16,56,127,255],[(0,false),(1,false),(2,false),(3,false),(4,false),(5,false),(6,false),(7,false),(8,false)]),(10,[0,0,3,0,15,0,0,96,255,511],[(0,false),(1,false),(2,false),(3,false),(4,false),(5,false),(6,false),(7,false),(8,false),(9,false)])]⟩) rfl rfl (Nat.le_of_ble_eq_true rfl) (by decide) ?_)
 unfold startA
 try simp only[go_sem]
 repeat' (first|refine st_seq_reg rfl (by first|(simp only[go_sem,hf,conv1,add_str2,List.length_append,List.length_cons,List.length_nil,List.length_take,List.length_drop];rfl)|rfl) (by first|(simp only[go_sem,hf,conv1,add_str2,List.length_append,List.length_cons,List.length_nil,List.length_take,List.length_drop];rfl)|rfl) ?_|refine st_reg rfl (by first|(simp only[go_sem,hf,conv1,add_str2,List.length_append,List.length_cons,List.length_nil,List.length_take,List.length_drop];rfl)|rfl) (by first|(simp only[go_sem,hf,conv1,add_str2,List.length_append,List.length_cons,List.length_nil,List.length_take,List.length_drop];rfl)|rfl) ?_|refine st_seq_draw rfl (by first|(simp only[go_sem,hf,conv1,add_str2,List.length_append,List.length_cons,List.length_nil,List.length_take,List.length_drop];rfl)|rfl) (by first|(simp only[go_sem,hf,conv1,add_str2,List.length_append,List.length_cons,List.length_nil,List.length_take,List.length_drop];rfl)|rfl) ?_|refine st_draw rfl (by first|(simp only[go_sem,hf,conv1,add_str2,List.length_append,List.length_cons,List.length_nil,List.length_take,List.length_drop];rfl)|rfl) (by first|(simp only[go_sem,hf,conv1,add_str2,List.length_append,List.length_cons,List.length_nil,List.length_take,List.length_drop];rfl)|rfl) ?_|refine st_op ?_|refine st_det rfl (by simp (disch:=omega) only[go_sem,wr_i64,hf,conv1,add_str2,List.length_append,List.length_cons,List.length_nil,List.length_take,List.length_drop];rfl) ?_|refine st_dop rfl ?_|refine st_heap rfl (by simp (disch:=omega) only[go_sem,wr_i64,hf,conv1,add_str2,List.length_append,List.length_cons,List.length_nil,List.length_take,List.length_drop];rfl) ?_|(refine st_pure (by first|(simp (disch:=omega) only[go_sem,hf,conv1,add_str2,List.length_append,List.length_cons,List.length_nil,List.length_take,List.length_drop];rfl)|rfl) rfl (c85 _ _ ha (by omega)) (by first|(simp only[go_sem,hf,conv1,add_str2,List.length_append,List.length_cons,List.length_nil,List.length_take,List.length_drop];rfl)|rfl) (by intro n;first|(simp (disch:=omega) only[go_sem];rfl)|rfl) ?_;rintro v n ⟨r,rfl,r1,r2⟩ hn)|(refine st_pure (by first|(simp (disch:=omega) only[go_sem,hf,conv1,add_str2,List.length_append,List.length_cons,List.length_nil,List.length_take,List.length_drop];rfl)|rfl) rfl (c85 _ _ hh (by omega)) (by first|(simp only[go_sem,hf,conv1,add_str2,List.length_append,List.length_cons,List.length_nil,List.length_take,List.length_drop];rfl)|rfl) (by intro n;first|(simp (disch:=omega) only[go_sem];rfl)|rfl) ?_;rintro v n ⟨q,rfl,q1,q2⟩ hn)|refine st_condT rfl ?_|refine st_condF rfl ?_|(refine st_condS rfl ?_ ?_ <;> intro hg <;> (try simp only[dcT,dcF,bnT,bnF] at hg))|refine st_nil ?_|refine st_dnil ?_|refine st_tN ?_|refine st_seq ?_|refine st_block ?_|refine st_skip ?_|refine st_exit ?_|refine st_ret ?_|refine st_tE ?_|refine st_tR ?_|refine st_bN ?_|refine st_bR ?_|refine st_bH ?_|refine st_bM rfl ?_)
 all_goals try (exfalso;omega)
 all_goals
  simp (disch:=omega) only[AEnd,Tryz.results40,aresK,fin,go_sem,implies_true,true_and,and_true,List.reverse_cons,List.reverse_nil]
  exact ⟨_,rfl,by simp only[List.length_append,List.length_cons,List.length_nil,List.length_take,List.length_drop];omega⟩
end Go.Proofs.YtaijkalhkgjakaaGreatDoor

namespace Go.Proofs.YtaijkalhkgjakaaGreatDoor
open Go.Av Go.Txt Go.Lib
theorem itoa_nat (n:Nat):itoa (n:Int)=decDigits n:=by
 unfold itoa
 rw [if_neg (by omega)]
 simp
theorem join_nums (w:List UInt8):∀ l:List Int,joinL 32 (w :: l.map itoa)=w ++ numsT l
 | []=>by simp [joinL,numsT]
 | x :: l=>by
  rw [List.map_cons,joinL_cons 32 w (by simp),join_nums (itoa x) l]
  simp [numsT]
theorem numsP_inv {k:Nat}:∀ {ws:List (List UInt8)} {l:List Int},numsP k ws=some l→ws=l.map itoa
 | [],l,h=>by simp [numsP] at h;subst h;rfl
 | x :: ws,l,h=>by
  simp only[numsP] at h
  split at h
  ·rename_i n q h1 h2
   cases h
   rw [List.map_cons,itoa_nat,← (numP_some h1).1,← numsP_inv h2]
  ·cases h
theorem row_of {k:Nat} {row w:List UInt8} {l:List Int} (h:rowP k row=some (w,l)):row=w ++ numsT l:=by
 unfold rowP at h
 split at h
 ·cases h
 ·rename_i w' ws hw
  cases hn:numsP k ws with
  | none=>rw [hn] at h;cases h
  | some r =>
   rw [hn] at h
   injection h with h
   injection h with h1 h2
   subst h1;subst h2
   rw [← join_nums,← numsP_inv hn,← hw,join_split]
theorem join_rows:∀ rs:List (List UInt8),joinL 10 (rs ++ [[]])=rs.flatMap (· ++ [10])
 | []=>rfl
 | r :: rs=>by
  rw [List.cons_append,joinL_cons 10 r (by simp),join_rows rs]
  simp
def shR (S:Sp):List UInt8:=wShop ++ numsT [(S.js.length:Int)]
def wkR (x:Wk):List UInt8:=wWorker ++ numsT [bi x.a,bi x.b,bi x.c]
def jbR (x:Jb):List UInt8:=wJob ++ numsT [x.f,x.s,x.d]
def rowsB (S:Sp):List (List UInt8):=shR S :: (S.ws.map wkR ++ S.js.map jbR ++ [wEnd])
theorem brd_flat (S:Sp):brdT S=(rowsB S).flatMap (· ++ [10]):=by
 unfold brdT rowsB shR
 simp only[List.flatMap_cons,List.flatMap_append,List.flatMap_map,List.flatMap_nil,List.append_nil]
 unfold rowT
 have e1:S.ws.flatMap wkT=S.ws.flatMap fun a=>wkR a ++ [10]:=rfl
 have e2:S.js.flatMap jbT=S.js.flatMap fun a=>jbR a ++ [10]:=rfl
 rw [e1,e2]
 simp [numsT]
theorem brd_len {S:Sp} (hE:shopE S=0):(brdT S).length≤1000:=by
 have hS:=shop_ok hE
 have h4:S.ws.length≤4:=hS.m4
 have h7:S.js.length≤7:=hS.n7
 have h1:(S.ws.flatMap wkT).length≤80 * 4:=Nat.le_trans (flat_len (fun x _=>wkT_len x)) (Nat.mul_le_mul_left _ h4)
 have h2:(S.js.flatMap jbT).length≤80 * 7:=Nat.le_trans (flat_len (fun x hx=>jbT_len (hS.job x hx))) (Nat.mul_le_mul_left _ h7)
 have h3:=rowT_len (w:=wShop) (l:=[(S.js.length:Int)]) (by intro x hx;simp at hx;omega)
 have h5:=rowT_len (w:=wEnd) (l:=[]) (by intro x hx;cases hx)
 have e1:wShop.length=4:=rfl
 have e2:wEnd.length=3:=rfl
 unfold brdT
 simp only[List.length_append,List.length_cons,List.length_nil] at h3 h5 ⊢
 omega
theorem run_e:∀ {rs:List (List UInt8)} {i:Nat} {st st':BSt},runR i st rs=.inr st'→st.e=true→rs=[]∧st'=st
 | [],i,st,st',h,_=>by simp only[runR] at h;injection h with h;exact ⟨rfl,h.symm⟩
 | r :: rs,i,st,st',h,he=>by
  have:stepB i st r=none:=by
   unfold stepB
   split
   ·rfl
   ·rw [if_pos he]
  rw [runR,this] at h
  cases h
theorem len3 {l:List Int} (h:l.length=3):l=[nth l 0,nth l 1,nth l 2]:=by
 match l,h with
 | [a,b,c],_=>rfl
theorem bi_dec {x:Int} (h:0≤x∧x≤1):bi (decide (x=1))=x:=by
 unfold bi
 by_cases h1:x=1
 ·simp [h1]
 ·simp [h1];omega
theorem run_inv:∀ {rs:List (List UInt8)} {i:Nat} {st st':BSt},runR i st rs=.inr st'→st.e=false→st'.e=true→i ≠ 0 →
  ∃ ws2 js2,rs=ws2.map wkR ++ js2.map jbR ++ [wEnd]∧st'.S.ws=st.S.ws ++ ws2∧st'.S.js=st.S.js ++ js2∧st'.m=st.m∧(st.S.js ≠ []→ws2=[])
 | [],i,st,st',h,he,he',_=>by
  simp only[runR] at h;injection h with h;rw [h] at he;rw [he] at he';cases he'
 | r :: rs,i,st,st',h,he,he',hi=>by
  rw [runR] at h
  cases hp:rowP 3 r with
  | none =>
   have:stepB i st r=none:=by unfold stepB;rw [hp]
   rw [this] at h;cases h
  | some wl =>
   obtain ⟨w,l⟩:=wl
   have hr:=row_of hp
   have hst:stepB i st r=(if ¬ (w=wShop ↔ i=0) then none else if w=wShop then (if l.length=1 then some ⟨st.S,nth l 0,st.e⟩ else none) else if w=wWorker then (if l.length=3∧allIn 0 1 l=true∧st.S.js.length=0 then some ⟨⟨st.S.ws ++ [⟨decide (nth l 0=1),decide (nth l 1=1),decide (nth l 2=1)⟩],st.S.js⟩,st.m,st.e⟩ else none) else if w=wJob then (if l.length=3 then some ⟨⟨st.S.ws,st.S.js ++ [⟨nth l 0,nth l 1,nth l 2⟩]⟩,st.m,st.e⟩ else none) else if w=wEnd then (if l.length=0 then some ⟨st.S,st.m,true⟩ else none) else none):=by
    unfold stepB;rw [hp];simp only;rw [if_neg (by simp [he])]
   by_cases h0:w=wShop
   ·rw [if_pos (by simp [h0,hi])] at hst
    rw [hst] at h;cases h
   rw [if_neg (by simp [h0,hi]),if_neg h0] at hst
   by_cases h1:w=wWorker
   ·rw [if_pos h1] at hst
    by_cases hc:l.length=3∧allIn 0 1 l=true∧st.S.js.length=0
    ·rw [if_pos hc] at hst
     rw [hst] at h
     simp only at h
     obtain ⟨ws2,js2,q1,q2,q3,q4,q5⟩:=run_inv h (by exact he) he' (Nat.succ_ne_zero i)
     have hin:∀ x ∈ l,0≤x∧x≤1:=fun x hx=>by
      have:=hc.2.1
      unfold allIn at this
      have:=List.all_eq_true.1 this x hx
      simpa using this
     have hl:=len3 hc.1
     have b0:=bi_dec (hin (nth l 0) (by rw [hl];simp [nth]))
     have b1:=bi_dec (hin (nth l 1) (by rw [hl];simp [nth]))
     have b2:=bi_dec (hin (nth l 2) (by rw [hl];simp [nth]))
     refine ⟨⟨decide (nth l 0=1),decide (nth l 1=1),decide (nth l 2=1)⟩ :: ws2,js2,?_,?_,q3,q4,?_⟩
     ·rw [q1,hr,h1,List.map_cons,wkR]
      dsimp only
      rw [b0,b1,b2,← hl]
      simp
     ·rw [q2];simp
     ·intro hne
      exact absurd (List.length_eq_zero_iff.1 hc.2.2) hne
    ·rw [if_neg hc] at hst
     rw [hst] at h;cases h
   rw [if_neg h1] at hst
   by_cases h2:w=wJob
   ·rw [if_pos h2] at hst
    by_cases hc:l.length=3
    ·rw [if_pos hc] at hst
     rw [hst] at h
     simp only at h
     obtain ⟨ws2,js2,q1,q2,q3,q4,q5⟩:=run_inv h (by exact he) he' (Nat.succ_ne_zero i)
     have hw:ws2=[]:=q5 (by simp)
     subst hw
     have hl:=len3 hc
     refine ⟨[],⟨nth l 0,nth l 1,nth l 2⟩ :: js2,?_,by rw [q2],?_,q4,fun _=>rfl⟩
     ·rw [q1,hr,h2,List.map_cons,jbR]
      dsimp only
      rw [← hl]
      simp
     ·rw [q3];simp
    ·rw [if_neg hc] at hst
     rw [hst] at h;cases h
   rw [if_neg h2] at hst
   by_cases h3:w=wEnd
   ·rw [if_pos h3] at hst
    by_cases hc:l.length=0
    ·rw [if_pos hc] at hst
     rw [hst] at h
     simp only at h
     obtain ⟨e1,e2⟩:=run_e h rfl
     have hl:l=[]:=List.length_eq_zero_iff.1 hc
     refine ⟨[],[],?_,?_,?_,?_,fun _=>rfl⟩
     ·rw [e1,hr,h3,hl];simp [numsT]
     ·rw [e2];simp
     ·rw [e2];simp
     ·rw [e2]
    ·rw [if_neg hc] at hst
     rw [hst] at h;cases h
   rw [if_neg h3] at hst
   rw [hst] at h;cases h
theorem rd_inv (text:List UInt8):(∃ k e,rdV text=badV k e∧e ≠ 0) ∨ ∃ T:Sp,rdV text=.tup [T.av,.int .i64 0,.int .i64 0]∧shopE T=0∧brdT T=text:=by
 obtain ⟨rows,hrows⟩:∃ rows,rows=splitL 10 text:=⟨_,rfl⟩
 obtain ⟨nb,hnb⟩:∃ nb,nb=rows.length - 1:=⟨_,rfl⟩
 have hr1:1≤rows.length:=by rw [hrows];exact List.length_pos_iff.2 (splitL_ne _ _)
 unfold rdV
 by_cases h1:1000 < text.length
 ·rw [if_pos h1];exact .inl ⟨_,_,rfl,by decide⟩
 rw [if_neg h1,← hrows,← hnb]
 cases hrun:runR 0 st0 (rows.take nb) with
 | inl k=>exact .inl ⟨_,_,rfl,by decide⟩
 | inr st =>
  simp only
  by_cases he:st.e=false
  ·rw [if_pos he];exact .inl ⟨_,_,rfl,by decide⟩
  rw [if_neg he]
  by_cases hla:rows.getD nb [] ≠ []
  ·rw [if_pos hla];exact .inl ⟨_,_,rfl,by decide⟩
  rw [if_neg hla]
  by_cases hm:st.m ≠ st.S.js.length
  ·rw [if_pos hm];exact .inl ⟨_,_,rfl,by decide⟩
  rw [if_neg hm]
  by_cases hE:shopE st.S ≠ 0
  ·rw [if_pos hE];exact .inl ⟨_,_,rfl,hE⟩
  rw [if_neg hE]
  refine .inr ⟨st.S,rfl,by simpa using hE,?_⟩
  have hla:rows.getD nb []=[]:=by simpa using hla
  have hm:st.m=st.S.js.length:=by simpa using hm
  have he:st.e=true:=by simpa using he
  have hrl:rows=rows.take nb ++ [[]]:=by
   have e:=(List.take_append_drop nb rows).symm
   have e2:rows.drop nb=[[]]:=by
    rw [List.drop_eq_getElem_cons (by omega),List.drop_eq_nil_of_le (by omega)]
    rw [List.getD_eq_getElem?_getD,List.getElem?_eq_getElem (by omega)] at hla
    simpa using hla
   rw [e2] at e;exact e
  have htext:text=(rows.take nb).flatMap (· ++ [10]):=by
   rw [← join_rows,← hrl,hrows,join_split]
  rw [brd_flat,htext]
  congr 1
  cases hb:rows.take nb with
  | nil =>
   rw [hb] at hrun
   simp only[runR] at hrun
   injection hrun with hrun
   rw [← hrun] at he
   cases he
  | cons r rs =>
   rw [hb,runR] at hrun
   cases hp:rowP 3 r with
   | none =>
    have:stepB 0 st0 r=none:=by unfold stepB;rw [hp]
    rw [this] at hrun;cases hrun
   | some wl =>
    obtain ⟨w,l⟩:=wl
    have hr:=row_of hp
    by_cases h0:w=wShop
    ·by_cases hl:l.length=1
     ·have hst:stepB 0 st0 r=some ⟨st0.S,nth l 0,false⟩:=by
       unfold stepB;rw [hp];simp only
       rw [if_neg (by simp [st0]),if_neg (by simp [h0]),if_pos h0,if_pos hl];rfl
      rw [hst] at hrun
      simp only at hrun
      obtain ⟨ws2,js2,q1,q2,q3,q4,_⟩:=run_inv hrun rfl he (by decide)
      have q2:st.S.ws=ws2:=by rw [q2];rfl
      have q3:st.S.js=js2:=by rw [q3];rfl
      unfold rowsB
      rw [q1,q2,q3]
      congr 1
      rw [hr,h0,shR,← hm,q4]
      match l,hl with
      | [a],_=>rfl
     ·have hst:stepB 0 st0 r=none:=by
       unfold stepB;rw [hp];simp only
       rw [if_neg (by simp [st0]),if_neg (by simp [h0]),if_pos h0,if_neg hl]
      rw [hst] at hrun;cases hrun
    ·have hst:stepB 0 st0 r=none:=by
      unfold stepB;rw [hp];simp only
      rw [if_neg (by simp [st0]),if_pos (by simp [h0])]
     rw [hst] at hrun;cases hrun
end Go.Proofs.YtaijkalhkgjakaaGreatDoor

namespace Go.Proofs.YtaijkalhkgjakaaGreatDoor
open Go.Av
attribute [local irreducible] thenA blockA awp awpOps awpD awp1
attribute [local go_sem_proc] Nat.reduceAdd Nat.reduceMul Nat.reduceEqDiff Nat.reduceBEq Nat.reduceLeDiff
attribute [local go_sem_proc ↓] reduceIte
attribute [local go_sem] if_yes if_no
set_option maxHeartbeats 8000000
set_option maxRecDepth 20000
def DB (l:List Int):Prop:=l.length=7∧∀ i,0≤l.getD i 0∧l.getD i 0≤3000
theorem DB.next {S:Sp} (hS:S.Ok) {x y:Dr} (h:Rt S x) (hd:DB x.day) (hy:y ∈ nextD S x):DB y.day:=by
 obtain ⟨job,i,hj,hi,hs⟩:=mem_nextD.1 hy
 obtain ⟨_,_,_,rfl⟩:=nextAt_some hs
 have b:=h.bd hS
 have h7:=hS.n7
 have hh:=b.h i
 have hf:=b.f (jOf S.js job).f.toNat
 refine ⟨by simp [withD,hd.1],fun k=>?_⟩
 have e:=ixF_set (l:=x.day) (i:=job) (by rw [hd.1];omega) (max (x.hands.getD i 0) (x.fls.getD (jOf S.js job).f.toNat 0))
 have e2:=congrFun e k
 show 0≤ixF (x.day.set job _) k∧ixF (x.day.set job _) k≤3000
 rw [e2]
 by_cases q:k=job
 ·rw [q,upd_same];omega
 ·rw [upd_ne _ _ q];exact hd.2 k
theorem tryD_DB {S:Sp} (hS:S.Ok):∀ (f:Nat) (x:Dr) (st:List Int × Int),Rt S x→DB x.day→DB st.1→DB (tryD S f x st).1:=by
 intro f
 induction f with
 | zero=>intro x st _ _ h;exact h
 | succ f ih =>
  intro x st hx hd hs
  simp only[tryD]
  split
  ·exact hs
  ·split
   ·exact hd
   ·have:∀ (l:List Dr) (st:List Int × Int),(∀ y ∈ l,y ∈ nextD S x)→DB st.1→DB (l.foldl (fun st y=>tryD S f y st) st).1:=by
     intro l
     induction l with
     | nil=>intro st _ h;exact h
     | cons y l ihl =>
      intro st hl h
      have hy:=hl y (by simp)
      exact ihl _ (fun z hz=>hl z (by simp [hz])) (ih y st (hx.next hS hy) (DB.next hS hx hd hy) h)
    exact this _ st (fun _ h=>h) hs
theorem DB.zero:DB (List.replicate 7 0):=⟨rfl,fun i=>by
 rw [List.getD_eq_getElem?_getD,List.getElem?_replicate]
 split <;> simp⟩
theorem earD_DB {S:Sp} (hS:S.Ok):DB (earD S).1:=tryD_DB hS _ _ _ (Rt.start S) DB.zero DB.zero
def bestV (S:Sp):AV:=if (bndV S).2 ≠ 0 then .tup [.nils,.int .i64 0,.int .i64 (bndV S).2] else .tup [.lst 2 ((bestD S).1.map Sf.row),.int .i64 (bestD S).2,.int .i64 0]
theorem best_eq (S:Sp):bestD S=(stfP S (earD S).1,(earD S).2):=rfl
theorem bnd_ok {S:Sp} (h:(bndV S).2=0):S.Ok∧lackD S=false:=by
 unfold bndV at h
 split at h
 ·rename_i q;exact absurd h q
 ·rename_i q
  split at h
  ·exact absurd h (by decide)
  ·rename_i q2
   exact ⟨shop_ok (Decidable.of_not_not q),by simpa using q2⟩
theorem c34 (S:Sp):PureG gB Tryz.prog 34 [S.av] (fun v=>v=bestV S):=by
 intro h hgl
 refine ACalls.forget (ACalls.of tab mixed Tryz.call34 Tryz.func34 rfl (fi:=⟨25,[7],[1],none,[]⟩) rfl rfl (Nat.le_of_ble_eq_true rfl) (by decide) ?_)
 unfold startA
 try simp only[go_sem]
 by_cases hb:(bndV S).2=0
 ·have hS:=(bnd_ok hb).1
  have hD:=earD_DB hS
  repeat' (first|refine st_seq_reg rfl (by first|(simp only[go_sem,aC_take,hb];rfl)|rfl) (by first|(simp only[go_sem,aC_take,hb];rfl)|rfl) ?_|refine st_op ?_|refine st_det rfl (by simp (disch:=omega) only[go_sem,wr_i64,aC_take,hb];rfl) ?_|refine st_loc rfl (by simp (disch:=omega) only[go_sem,wr_i64,aC_take,hb];rfl) ?_|refine st_store (by simp (disch:=omega) only[go_sem,wr_i64,aC_take,hb];rfl) ?_|(refine st_pureGE (by first|(simp (disch:=omega) only[go_sem,aC_take,hb];rfl)|rfl) rfl (c35 S) (by exact hgl) (by first|(simp only[go_sem,aC_take,hb];rfl)|rfl) (by intro n;first|(simp (disch:=omega) only[go_sem];rfl)|rfl) ?_;intro n hn)|(refine st_pureGE (by first|(simp (disch:=omega) only[go_sem,aC_take,hb];rfl)|rfl) rfl (c71 S hS) (by exact hgl) (by first|(simp only[go_sem,aC_take,hb];rfl)|rfl) (by intro n;first|(simp (disch:=omega) only[go_sem];rfl)|rfl) ?_;intro n hn)|(refine st_pureGE (by first|(simp (disch:=omega) only[go_sem,aC_take,hb];rfl)|rfl) rfl (c72 S hS (earD S).1 hD.1 hD.2) (by exact hgl) (by first|(simp only[go_sem,aC_take,hb];rfl)|rfl) (by intro n;first|(simp (disch:=omega) only[go_sem];rfl)|rfl) ?_;intro n hn)|refine st_condF rfl ?_|refine st_nil ?_|refine st_tN ?_|refine st_seq ?_|refine st_skip ?_|refine st_ret ?_)
  all_goals try (exfalso;omega)
  simp (disch:=omega) only[AEnd,Tryz.results34,aresK,fin,go_sem,implies_true,true_and,and_true,List.reverse_cons,List.reverse_nil]
  unfold bestV;rw [if_neg (fun q=>q hb),best_eq]
 ·repeat' (first|refine st_seq_reg rfl (by first|(simp only[go_sem];rfl)|rfl) (by first|(simp only[go_sem];rfl)|rfl) ?_|refine st_op ?_|refine st_det rfl (by simp (disch:=omega) only[go_sem,wr_i64];rfl) ?_|(refine st_pureGE (by first|(simp (disch:=omega) only[go_sem];rfl)|rfl) rfl (c35 S) (by exact hgl) (by first|(simp only[go_sem];rfl)|rfl) (by intro n;first|(simp (disch:=omega) only[go_sem];rfl)|rfl) ?_;intro n hn)|(refine st_condS rfl ?_ ?_ <;> intro hg <;> (try simp only[dcT,dcF,bnT,bnF] at hg))|refine st_nil ?_|refine st_tN ?_|refine st_seq ?_|refine st_skip ?_|refine st_ret ?_|refine st_tR ?_)
  all_goals try (exfalso;omega)
  simp (disch:=omega) only[AEnd,Tryz.results34,aresK,fin,go_sem,implies_true,true_and,and_true,List.reverse_cons,List.reverse_nil]
  unfold bestV;rw [if_pos hb]
end Go.Proofs.YtaijkalhkgjakaaGreatDoor
