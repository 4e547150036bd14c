/- Contracts of functions that the claim reaches: what each call gives, told in our own logic. Conditions: those of each theorem. -/
import Derived.Test.YtoafigpikgigaaaGreatDoorV3
open List (length_map)
set_option linter.all false
set_option linter.unusedSimpArgs false
set_option linter.unusedVariables false
namespace Go.Proofs.YtoafigpikgigaaaGreatDoor
open Go.Av
attribute [local irreducible] thenA blockA awp awpOps awpD awp1
attribute [local go_sem_proc] Nat.reduceAdd Nat.reduceMul Nat.reduceEqDiff Nat.reduceBEq Nat.reduceLeDiff
attribute [local go_sem_proc ↓] reduceIte
attribute [local go_sem] if_yes if_no
set_option maxHeartbeats 8000000
set_option maxRecDepth 20000
theorem wr_u64 (n:Int):isU64 (wr .u64 n):=by
 unfold isU64 wr IntKind.wrap
 simp only[IntKind.signed,IntKind.bits,Bool.false_and,Bool.false_eq_true,if_false]
 omega
theorem xor_u64 (a b:Int):isU64 (bitop .xor .u64 a b):=wr_u64 _
theorem st_u64 {P:Program} {tt:Nat→TI} {fi:FI} {k0:Nat} {K:AS→Prop} {T:Nat→AV} {B:Bid→Option (List AV)} {M:List Nat} {H:AH} {d:Tmp} {op:Op} {t:TypeId} {p:String} {a:Array Edge} {g:Option (Nat × Bool)} {v:Int} (hd:isDet ⟨some d,op,t,p,a,g⟩=true) (h:dres tt fi k0 ⟨some d,op,t,p,a,g⟩ ⟨T,B,M,H⟩=some (.int .u64 v,.none)) (hv:isU64 v) (hk:∀ y,isU64 y→K ⟨upd T d (.int .u64 y),B,M,H⟩) :
  awp1 P tt fi k0 ⟨some d,op,t,p,a,g⟩ ⟨T,B,M,H⟩ K:=st_det hd h (hk v hv)
theorem c31 (b:Nat × Nat):Drum Tryz.prog 31 [.ptr b 0 0] b (fun v=>∃ y,isU64 y∧v=.int .u64 y):=by
 refine Drum.of Tryz.call31 fun h x hx hu hold=>?_
 refine ACalls.of tab mixed Tryz.call31 Tryz.func31 rfl (fi:=⟨31,[],[],none,[]⟩) rfl rfl (Nat.le_of_ble_eq_true rfl) (by decide) ?_
 unfold startA
 simp only[dr] at hx ⊢
 repeat' (first|refine st_seq_reg rfl (by first|(simp only[go_sem,hx];rfl)|rfl) (by first|(simp only[go_sem,hx];rfl)|rfl) ?_|refine st_reg rfl (by first|(simp only[go_sem,hx];rfl)|rfl) (by first|(simp only[go_sem,hx];rfl)|rfl) ?_|refine st_op ?_|(refine st_u64 rfl (by simp (disch:=omega) only[go_sem,wr_i64,hx];rfl) (by first|exact wr_u64 _|exact xor_u64 _ _) ?_;intro y hy)|refine st_det rfl (by simp (disch:=omega) only[go_sem,wr_i64,hx];rfl) ?_|refine st_store (by simp (disch:=omega) only[go_sem,wr_i64,hx];rfl) ?_|refine st_nil ?_|refine st_tN ?_|refine st_seq ?_|refine st_skip ?_|refine st_ret ?_|refine st_tE ?_|refine st_tR ?_)
 simp (disch:=omega) only[AEnd,Tryz.results31,aresK,fin,go_sem,implies_true,true_and,and_true,List.reverse_cons,List.reverse_nil]
 exact ⟨fun b' _ hn=>if_neg hn,⟨_,rfl,by assumption⟩,⟨_,by assumption,rfl⟩⟩
theorem wr_u64i {n:Int} (h:0≤n∧n < 18446744073709551616):wr .u64 n=n:=by
 unfold wr IntKind.wrap
 simp only[IntKind.signed,IntKind.bits,Bool.false_and,Bool.false_eq_true,if_false]
 omega
theorem roll_bd {y n:Int} (hy:isU64 y) (hn:2≤n):0≤(shr .u64 y 1).tmod n∧(shr .u64 y 1).tmod n < n:=by
 have h:0≤shr .u64 y 1:=by
  unfold shr
  rw [Int.fdiv_eq_ediv_of_nonneg _ (by decide)]
  have:=hy.1
  exact Int.ediv_nonneg this (by decide)
 exact ⟨Int.tmod_nonneg _ h,Int.tmod_lt_of_pos _ (by omega)⟩
def Rolls (n:Int) (v:AV):Prop:=∃ r,v=.int .i64 r∧0≤r∧(r < n ∨ r=0)
theorem c25 (b:Nat × Nat) (N:Int) (hN:N≤2000000000):Drum Tryz.prog 25 [.ptr b 0 0,.int .i64 N] b (Rolls N):=by
 refine Drum.of Tryz.call25 fun h x hx hu hold=>?_
 refine ACalls.of tab mixed Tryz.call25 Tryz.func25 rfl (fi:=⟨14,[],[],none,[]⟩) rfl rfl (Nat.le_of_ble_eq_true rfl) (by decide) ?_
 unfold startA
 repeat' (first|refine st_seq_reg rfl (by first|(simp only[go_sem,hx,wr_u64i];rfl)|rfl) (by first|(simp only[go_sem,hx,wr_u64i];rfl)|rfl) ?_|refine st_reg rfl (by first|(simp only[go_sem,hx,wr_u64i];rfl)|rfl) (by first|(simp only[go_sem,hx,wr_u64i];rfl)|rfl) ?_|refine st_op ?_|refine st_det rfl (by simp (disch:=omega) only[go_sem,wr_i64,hx,wr_u64i];rfl) ?_|(refine st_drum (by first|(simp (disch:=omega) only[go_sem];rfl)|(simp (disch:=omega) only[go_sem])) rfl (c31 b) (by simp (disch:=omega) only[go_sem];exact hx) hu (by first|(simp only[go_sem];rfl)|rfl) (by intro x' n;simp (disch:=omega) only[go_sem];rfl) ?_;rintro v x' n hu' ⟨y,hy,rfl⟩ hn;have hr:=roll_bd hy (by omega:2≤N))|refine st_condT rfl ?_|refine st_condF rfl ?_|(refine st_condS rfl ?_ ?_ <;> intro hg <;> (try simp only[dcT,dcF,bnT,bnF] at hg))|refine st_nil ?_|refine st_tN ?_|refine st_seq ?_|refine st_skip ?_|refine st_ret ?_|refine st_tE ?_|refine st_tR ?_)
 ·simp (disch:=omega) only[AEnd,Tryz.results25,aresK,fin,go_sem,implies_true,true_and,and_true,List.reverse_cons,List.reverse_nil]
  exact ⟨⟨x,hx,hu⟩,⟨0,rfl,by omega,by omega⟩⟩
 ·simp (disch:=omega) only[AEnd,Tryz.results25,aresK,fin,go_sem,implies_true,true_and,and_true,List.reverse_cons,List.reverse_nil]
  exact ⟨fun b' _ h2=>if_neg h2,⟨_,rfl,hu'⟩,⟨_,rfl,by omega,by omega⟩⟩
theorem c25' (b:Nat × Nat) (N:Int) (hN:1≤N∧N≤2000000000):Drum Tryz.prog 25 [.ptr b 0 0,.int .i64 N] b (fun v=>∃ r,v=.int .i64 r∧0≤r∧r < N):=by
 intro h x hx hu
 refine (c25 b N hN.2 h x hx hu).mono ?_
 rintro v h' ⟨x',n,h1,h2,h3,r,h4,h5,h6⟩
 exact ⟨x',n,h1,h2,h3,r,h4,h5,by omega⟩
theorem c27 (b:Nat × Nat) (lo hi:Int) (h1:-1000000000≤lo∧lo≤1000000000) (h2:lo - 1≤hi∧hi - lo≤1000000000):Drum Tryz.prog 27 [.ptr b 0 0,.int .i64 lo,.int .i64 hi] b (fun v=>∃ r,v=.int .i64 r∧lo≤r∧(r≤hi ∨ r=lo)):=by
 refine Drum.of Tryz.call27 fun h x hx hu hold=>?_
 refine ACalls.of tab mixed Tryz.call27 Tryz.func27 rfl (fi:=⟨15,[],[],none,[]⟩) rfl rfl (Nat.le_of_ble_eq_true rfl) (by decide) ?_
 unfold startA
 repeat' (first|refine st_seq_reg rfl (by first|(simp only[go_sem,hx];rfl)|rfl) (by first|(simp only[go_sem,hx];rfl)|rfl) ?_|refine st_reg rfl (by first|(simp only[go_sem,hx];rfl)|rfl) (by first|(simp only[go_sem,hx];rfl)|rfl) ?_|refine st_op ?_|refine st_det rfl (by simp (disch:=omega) only[go_sem,wr_i64,hx];rfl) ?_|(refine st_drum (by first|(simp (disch:=omega) only[go_sem,hx];rfl)|rfl) rfl (c25 b _ (by omega)) (by first|(simp (disch:=omega) only[go_sem,hx];rfl)|rfl|exact put_same _ _ _) (by assumption) (by first|(simp only[go_sem,hx];rfl)|rfl) (by intro x' n;first|(simp (disch:=omega) only[go_sem];rfl)|rfl) ?_;rintro v x' n hu' ⟨r,rfl,hr1,hr2⟩ hn)|refine st_nil ?_|refine st_tN ?_|refine st_seq ?_|refine st_skip ?_|refine st_ret ?_|refine st_tE ?_|refine st_tR ?_)
 simp (disch:=omega) only[AEnd,Tryz.results27,aresK,fin,go_sem,implies_true,true_and,and_true,List.reverse_cons,List.reverse_nil]
 exact ⟨fun b' _ h2=>if_neg h2,⟨_,rfl,hu'⟩,⟨_,rfl,by omega,by omega⟩⟩
theorem c27' (b:Nat × Nat) (lo hi:Int) (h1:-1000000000≤lo∧lo≤1000000000) (h2:lo≤hi∧hi - lo≤1000000000):Drum Tryz.prog 27 [.ptr b 0 0,.int .i64 lo,.int .i64 hi] b (fun v=>∃ r,v=.int .i64 r∧lo≤r∧r≤hi):=by
 intro h x hx hu
 refine (c27 b lo hi h1 (by omega) h x hx hu).mono ?_
 rintro v h' ⟨x',n,h1,h2,h3,r,h4,h5,h6⟩
 exact ⟨x',n,h1,h2,h3,r,h4,h5,by omega⟩
theorem c26 (b:Nat × Nat) (es:List Int) (h1:es ≠ []) (h2:(es.length:Int)≤1000):Drum Tryz.prog 26 [.ptr b 0 0,.lst 1 (es.map iv)] b (fun v=>∃ r,v=.int .i64 r∧r ∈ es):=by
 have h3:0 < es.length:=List.length_pos_iff.2 h1
 refine Drum.of Tryz.call26 fun h x hx hu hold=>?_
 refine ACalls.of tab mixed Tryz.call26 Tryz.func26 rfl (fi:=⟨15,[],[],none,[]⟩) rfl rfl (Nat.le_of_ble_eq_true rfl) (by decide) ?_
 unfold startA
 repeat' (first|refine st_seq_reg rfl (by first|(simp only[go_sem,hx];rfl)|rfl) (by first|(simp only[go_sem,hx];rfl)|rfl) ?_|refine st_reg rfl (by first|(simp only[go_sem,hx];rfl)|rfl) (by first|(simp only[go_sem,hx];rfl)|rfl) ?_|refine st_op ?_|refine st_det rfl (by simp (disch:=omega) only[go_sem,wr_i64,hx];rfl) ?_|(refine st_drum (by first|(simp (disch:=omega) only[go_sem,hx];rfl)|rfl) rfl (c25 b _ (by omega)) (by first|(simp (disch:=omega) only[go_sem,hx];rfl)|rfl|exact put_same _ _ _) (by assumption) (by first|(simp only[go_sem,hx];rfl)|rfl) (by intro x' n;first|(simp (disch:=omega) only[go_sem];rfl)|rfl) ?_;rintro v x' n hu' ⟨r,rfl,hr1,hr2⟩ hn)|refine st_condT rfl ?_|refine st_condF rfl ?_|(refine st_condS rfl ?_ ?_ <;> intro hg <;> (try simp only[dcT,dcF,bnT,bnF] at hg))|refine st_nil ?_|refine st_tN ?_|refine st_seq ?_|refine st_skip ?_|refine st_ret ?_|refine st_tE ?_|refine st_tR ?_)
 ·omega
 ·simp (disch:=omega) only[AEnd,Tryz.results26,aresK,fin,go_sem,implies_true,true_and,and_true,List.reverse_cons,List.reverse_nil]
  exact ⟨fun b' _ h2=>if_neg h2,⟨_,rfl,hu'⟩,⟨_,rfl,elt_mem (by omega)⟩⟩
theorem c26b (b:Nat × Nat) (x y:Int):Drum Tryz.prog 26 [.ptr b 0 0,.lst 1 [[.int .i64 x],[.int .i64 y]]] b (fun v=>∃ r,v=.int .i64 r∧(r=x ∨ r=y)):=by
 have h:=c26 b [x,y] (by simp) (by simp)
 simpa [iv] using h
theorem c26c (b:Nat × Nat) (x y z:Int):Drum Tryz.prog 26 [.ptr b 0 0,.lst 1 [[.int .i64 x],[.int .i64 y],[.int .i64 z]]] b (fun v=>∃ r,v=.int .i64 r∧(r=x ∨ r=y ∨ r=z)):=by
 have h:=c26 b [x,y,z] (by simp) (by simp)
 simpa [iv] using h
theorem c8 (l:List Int) (hl:(l.length:Int)≤9223372036854775807) (h:AH):ACalls Tryz.prog 8 [.lst 1 (l.map iv)] h (fun v h'=>∃ b x n,v=.ptr b 0 0∧h.clk≤b.1∧b.1 < n∧isU64 x∧h'=(h.tick n).put b (dr x)):=by
 refine ACalls.of tab mixed Tryz.call8 Tryz.func8 rfl (fi:=⟨29,[],[],none,[(5,[0,0,2,6,14,0,0,96,224,480,1022,2047,4095,8191],[(0,false),(1,false),(2,false),(3,false),(4,false),(5,false),(6,false),(7,false),(8,true),(9,false),(10,false),(11,false),(12,false),(13,false)])]⟩) rfl rfl (Nat.le_of_ble_eq_true rfl) (by decide) ?_
 unfold startA
 repeat' (first|refine st_seq_reg rfl (by first|(simp only[go_sem];rfl)|rfl) (by first|(simp only[go_sem];rfl)|rfl) ?_|refine st_reg rfl (by first|(simp only[go_sem];rfl)|rfl) (by first|(simp only[go_sem];rfl)|rfl) ?_|refine st_seq_draw rfl (by first|(simp only[go_sem];rfl)|rfl) (by first|(simp only[go_sem];rfl)|rfl) ?_|refine st_draw rfl (by first|(simp only[go_sem];rfl)|rfl) (by first|(simp only[go_sem];rfl)|rfl) ?_|refine st_op ?_|refine st_det rfl (by simp (disch:=omega) only[go_sem,wr_i64];rfl) ?_|refine st_dop rfl ?_|refine st_loc rfl (by simp (disch:=omega) only[go_sem,wr_i64];rfl) ?_|refine st_heap rfl (by simp (disch:=omega) only[go_sem,wr_i64];rfl) ?_|refine st_store (by simp (disch:=omega) only[go_sem,wr_i64];rfl) ?_|refine st_condT rfl ?_|refine st_condF rfl ?_|(refine st_condS rfl ?_ ?_ <;> intro hg <;> (try simp only[dcT,dcF,bnT,bnF] at hg))|refine st_nil ?_|refine st_dnil ?_|refine st_tN ?_|refine st_seq ?_|refine st_block ?_|refine st_skip ?_|refine st_exit ?_|refine st_ret ?_|refine st_tE ?_|refine st_tR ?_|refine st_bN ?_|refine st_bR ?_|refine st_bH ?_|refine st_bM rfl ?_)
 refine st_loopH (α:=Nat × Int) tab mixed [] [] (by repeat (first|exact trivial|refine ⟨rfl,?_⟩)) [] [] (by repeat (first|exact trivial|refine ⟨rfl,?_⟩)) (fun a=>[(4,.int .i64 a.1)]) [(0,_),(2,_),(3,_)] (fun _=>[]) [] (fun a=>(h.tick (h.clk+1+1+1)).put (h.clk+1,6) (dr a.2)) (fun a=>a.1≤l.length∧isU64 a.2) (fun a=>l.length - a.1) (by decide) (0,2685821657736338717) ⟨by omega,by unfold isU64;omega⟩ (by (try simp only[go_sem]);repeat' (first|exact trivial|refine And.intro ?_ ?_|rfl|(simp (disch:=omega) only[go_sem,if_yes,if_no,if_no];rfl)|(simp (disch:=omega) only[go_sem,if_yes,if_no,if_no]))) (by (try simp only[go_sem]);repeat' (first|exact trivial|refine And.intro ?_ ?_|rfl|(simp (disch:=omega) only[go_sem,if_yes,if_no,if_no];rfl)|(simp (disch:=omega) only[go_sem,if_yes,if_no,if_no]))) (HOld.refl _) ?_
 rintro ⟨i,x⟩ c ⟨hi',hx⟩ hc
 simp only[go_sem] at hc
 simp only[go_sem,dr]
 repeat' (first|refine st_seq_reg rfl (by first|(simp only[go_sem];rfl)|rfl) (by first|(simp only[go_sem];rfl)|rfl) ?_|refine st_reg rfl (by first|(simp only[go_sem];rfl)|rfl) (by first|(simp only[go_sem];rfl)|rfl) ?_|refine st_seq_draw rfl (by first|(simp only[go_sem];rfl)|rfl) (by first|(simp only[go_sem];rfl)|rfl) ?_|refine st_draw rfl (by first|(simp only[go_sem];rfl)|rfl) (by first|(simp only[go_sem];rfl)|rfl) ?_|refine st_op ?_|(refine st_u64 rfl (by simp (disch:=omega) only[go_sem,wr_i64];rfl) (by first|exact wr_u64 _|exact xor_u64 _ _) ?_;intro y hy)|refine st_det rfl (by simp (disch:=omega) only[go_sem,wr_i64];rfl) ?_|refine st_dop rfl ?_|refine st_loc rfl (by simp (disch:=omega) only[go_sem,wr_i64];rfl) ?_|refine st_heap rfl (by simp (disch:=omega) only[go_sem,wr_i64];rfl) ?_|refine st_store (by simp (disch:=omega) only[go_sem,wr_i64];rfl) ?_|(refine st_drum (by first|(simp (disch:=omega) only[go_sem];rfl)|rfl) rfl (c31 _) (by first|(simp (disch:=omega) only[go_sem];rfl)|rfl|exact put_same _ _ _) (by assumption) (by first|(simp only[go_sem];rfl)|rfl) (by intro x' n;first|(simp (disch:=omega) only[go_sem];rfl)|rfl) ?_;rintro v x' n hu' ⟨w,hw,rfl⟩ hn)|refine st_condT rfl ?_|refine st_condF rfl ?_|(refine st_condS rfl ?_ ?_ <;> intro hg <;> (try simp only[dcT,dcF,bnT,bnF] at hg))|refine st_nil ?_|refine st_dnil ?_|refine st_tN ?_|refine st_seq ?_|refine st_block ?_|refine st_skip ?_|refine st_exit ?_|refine st_ret ?_|refine st_tE ?_|refine st_tR ?_|refine st_bN ?_|refine st_bR ?_|refine st_bH ?_|refine st_bM rfl ?_)
 ·refine ⟨(i+1,x'),⟨by omega,by assumption⟩,by omega,(by repeat' (first|exact trivial|refine And.intro ?_ ?_|rfl|(simp (disch:=omega) only[go_sem,if_yes,if_no,if_no];rfl)|(simp (disch:=omega) only[go_sem,if_yes,if_no,if_no]))),(by repeat' (first|exact trivial|refine And.intro ?_ ?_|rfl|(simp (disch:=omega) only[go_sem,if_yes,if_no,if_no];rfl)|(simp (disch:=omega) only[go_sem,if_yes,if_no,if_no]))),rfl,HOld.put _ _ _ (by omega)⟩
 ·simp (disch:=omega) only[AEnd,Tryz.results8,aresK,fin,go_sem,implies_true,true_and,and_true,List.reverse_cons,List.reverse_nil]
  exact ⟨_,x,_,rfl,by omega,by omega,hx,rfl⟩
end Go.Proofs.YtoafigpikgigaaaGreatDoor

namespace Go.Proofs.YtoafigpikgigaaaGreatDoor
open Go.Av
attribute [local irreducible] thenA blockA awp awpOps awpD awp1
attribute [local go_sem_proc] Nat.reduceAdd Nat.reduceMul Nat.reduceEqDiff Nat.reduceBEq Nat.reduceLeDiff
attribute [local go_sem_proc ↓] reduceIte
attribute [local go_sem] if_yes if_no
set_option maxHeartbeats 8000000
set_option maxRecDepth 20000
theorem elt_def (l:List Int) (i:Nat):elt l i=l.getD i 0:=rfl
theorem c46 (lo hi:Int) (es:List Int) (hl:(es.length:Int) < 1000000):Pure Tryz.prog 46 [.int .i64 lo,.int .i64 hi,.lst 1 (es.map iv)] (fun v=>v=.bool (allIn lo hi es)):=by
 intro h
 refine ACalls.forget (ACalls.of tab mixed Tryz.call46 Tryz.func46 rfl (fi:=⟨24,[],[],none,[]⟩) rfl rfl (Nat.le_of_ble_eq_true rfl) (by decide) ?_)
 unfold startA
 repeat' (first|refine st_seq_reg rfl (by first|(simp only[go_sem];rfl)|rfl) (by first|(simp only[go_sem];rfl)|rfl) ?_|refine st_op ?_|refine st_det rfl (by simp (disch:=omega) only[go_sem,wr_i64];rfl) ?_|refine st_nil ?_|refine st_seq ?_|refine st_block ?_)
 refine st_loopC (α:=Nat) tab mixed [] [] (by repeat (first|exact trivial|refine ⟨rfl,?_⟩)) [] [] (by repeat (first|exact trivial|refine ⟨rfl,?_⟩)) (fun i=>[(11,.int .i64 i)]) [(0,_),(1,_),(6,_),(9,_),(10,_)] (fun _=>[]) [] (fun i=>i≤es.length∧allIn lo hi (es.drop i)=allIn lo hi es) (fun i=>es.length - i) (by decide) 0 ⟨by omega,rfl⟩ (by (try simp only[go_sem]);repeat' (first|exact trivial|refine And.intro ?_ ?_|rfl|(simp (disch:=omega) only[go_sem,if_yes,if_no,if_no];rfl)|(simp (disch:=omega) only[go_sem,if_yes,if_no,if_no]))) (by (try simp only[go_sem]);repeat' (first|exact trivial|refine And.intro ?_ ?_|rfl|(simp (disch:=omega) only[go_sem,if_yes,if_no,if_no];rfl)|(simp (disch:=omega) only[go_sem,if_yes,if_no,if_no]))) (by first|(simp only[go_sem];rfl)|rfl) (by intro n;simp only[go_sem];rfl) ?_
 rintro i c ⟨hi',hall⟩ hc
 simp only[go_sem]
 repeat' (first|refine st_seq_reg rfl (by first|(simp only[go_sem];rfl)|rfl) (by first|(simp only[go_sem];rfl)|rfl) ?_|refine st_reg rfl (by first|(simp only[go_sem];rfl)|rfl) (by first|(simp only[go_sem];rfl)|rfl) ?_|refine st_op ?_|refine st_det rfl (by simp (disch:=omega) only[go_sem,wr_i64];rfl) ?_|refine st_gT rfl rfl rfl ?_|refine st_gF rfl rfl rfl ?_|(refine st_gS rfl rfl ?_ ?_ <;> intro hg <;> (try simp only[dcT,dcF,bnT,bnF] at hg))|refine st_condT rfl ?_|(refine st_condS rfl ?_ ?_ <;> intro hg <;> (try simp only[dcT,dcF,bnT,bnF] at hg))|refine st_nil ?_|refine st_tN ?_|refine st_seq ?_|refine st_block ?_|refine st_skip ?_|refine st_exit ?_|refine st_ret ?_|refine st_tE ?_|refine st_tR ?_|refine st_bN ?_|refine st_bR ?_|refine st_bH ?_)
 ·simp (disch:=omega) only[AEnd,Tryz.results46,aresK,fin,go_sem,implies_true,true_and,and_true,List.reverse_cons,List.reverse_nil]
  rw [← hall,drop_getD 0 (by omega)];simp [allIn,← elt_def,-List.getD_eq_getElem?_getD];omega
 ·simp (disch:=omega) only[AEnd,Tryz.results46,aresK,fin,go_sem,implies_true,true_and,and_true,List.reverse_cons,List.reverse_nil]
  rw [← hall,drop_getD 0 (by omega)];simp [allIn,← elt_def,-List.getD_eq_getElem?_getD];omega
 ·refine ⟨i+1,⟨by omega,by rw [← hall,drop_getD 0 (by omega:i < es.length)];simp [allIn,← elt_def,-List.getD_eq_getElem?_getD];omega⟩,by omega,(by repeat' (first|exact trivial|refine And.intro ?_ ?_|rfl|(simp (disch:=omega) only[go_sem,if_yes,if_no,if_no];rfl)|(simp (disch:=omega) only[go_sem,if_yes,if_no,if_no]))),(by repeat' (first|exact trivial|refine And.intro ?_ ?_|rfl|(simp (disch:=omega) only[go_sem,if_yes,if_no,if_no];rfl)|(simp (disch:=omega) only[go_sem,if_yes,if_no,if_no]))),rfl,(by first|exact HOld.of _ (by omega)|exact HOld.put _ _ _ (by omega))⟩
 ·simp (disch:=omega) only[AEnd,Tryz.results46,aresK,fin,go_sem,implies_true,true_and,and_true,List.reverse_cons,List.reverse_nil]
  rw [← hall,List.drop_eq_nil_of_le (by omega)];rfl
theorem c46a (lo hi a:Int):Pure Tryz.prog 46 [.int .i64 lo,.int .i64 hi,.lst 1 [[.int .i64 a]]] (fun v=>v=.bool (decide (lo≤a∧a≤hi))):=by
 have h:=c46 lo hi [a] (by simp)
 have e:allIn lo hi [a]=decide (lo≤a∧a≤hi):=by simp [allIn]
 rw [e] at h;exact h
theorem c46b (lo hi a b:Int):Pure Tryz.prog 46 [.int .i64 lo,.int .i64 hi,.lst 1 [[.int .i64 a],[.int .i64 b]]] (fun v=>v=.bool (decide (lo≤a∧a≤hi∧lo≤b∧b≤hi))):=by
 have h:=c46 lo hi [a,b] (by simp)
 have e:allIn lo hi [a,b]=decide (lo≤a∧a≤hi∧lo≤b∧b≤hi):=by simp [allIn,Bool.decide_and,Bool.and_assoc]
 rw [e] at h;exact h
theorem c43 (n lo hi:Int):Pure Tryz.prog 43 [.int .i64 n,.int .i64 lo,.int .i64 hi] (fun v=>v=.bool (decide (lo≤n∧n≤hi))):=by
 intro h
 refine ACalls.forget (ACalls.of tab mixed Tryz.call43 Tryz.func43 rfl (fi:=⟨15,[],[],none,[]⟩) rfl rfl (Nat.le_of_ble_eq_true rfl) (by decide) ?_)
 unfold startA
 repeat' (first|refine st_seq_reg rfl (by first|(simp only[go_sem];rfl)|rfl) (by first|(simp only[go_sem];rfl)|rfl) ?_|refine st_op ?_|refine st_det rfl (by simp (disch:=omega) only[go_sem,wr_i64];rfl) ?_|refine st_gT rfl rfl rfl ?_|refine st_gF rfl rfl rfl ?_|(refine st_gS rfl rfl ?_ ?_ <;> intro hg <;> (try simp only[dcT,dcF,bnT,bnF] at hg))|refine st_nil ?_|refine st_ret ?_)
 all_goals
  simp (disch:=omega) only[AEnd,Tryz.results43,aresK,fin,go_sem,implies_true,true_and,and_true,List.reverse_cons,List.reverse_nil]
  first|rfl|(simp;omega)
theorem c54 (s:Sx) (q:Int):Pure Tryz.prog 54 [.agg s.row,.int .i64 q] (fun v=>v=.int .i64 (oth s q)):=by
 intro h
 refine ACalls.forget (ACalls.of tab mixed Tryz.call54 Tryz.func54 rfl (fi:=⟨18,[],[2],none,[]⟩) rfl rfl (Nat.le_of_ble_eq_true rfl) (by decide) ?_)
 unfold startA
 simp only[go_sem]
 repeat' (first|refine st_seq_reg rfl (by first|(simp only[go_sem];rfl)|rfl) (by first|(simp only[go_sem];rfl)|rfl) ?_|refine st_op ?_|refine st_det rfl (by simp (disch:=omega) only[go_sem,wr_i64];rfl) ?_|(refine st_condS rfl ?_ ?_ <;> intro hg <;> (try simp only[dcT,dcF,bnT,bnF] at hg))|refine st_nil ?_|refine st_tN ?_|refine st_seq ?_|refine st_block ?_|refine st_skip ?_|refine st_ret ?_|refine st_tR ?_|refine st_bN ?_|refine st_bR ?_)
 all_goals
  simp (disch:=omega) only[AEnd,Tryz.results54,aresK,fin,go_sem,implies_true,true_and,and_true,List.reverse_cons,List.reverse_nil]
  unfold oth;first|rw [if_pos ‹q=s.a›]|rw [if_neg ‹¬ q=s.a›,if_pos ‹q=s.b›]|rw [if_neg ‹¬ q=s.a›,if_neg ‹¬ q=s.b›]
theorem c30 (s:Sx) (q:Int):Pure Tryz.prog 30 [.agg s.row,.int .i64 q] (fun v=>v=.int .i64 (oth s q)):=by
 intro h
 refine ACalls.forget (ACalls.of tab mixed Tryz.call30 Tryz.func30 rfl (fi:=⟨18,[],[2],none,[]⟩) rfl rfl (Nat.le_of_ble_eq_true rfl) (by decide) ?_)
 unfold startA
 simp only[go_sem]
 repeat' (first|refine st_seq_reg rfl (by first|(simp only[go_sem];rfl)|rfl) (by first|(simp only[go_sem];rfl)|rfl) ?_|refine st_op ?_|refine st_det rfl (by simp (disch:=omega) only[go_sem,wr_i64];rfl) ?_|(refine st_condS rfl ?_ ?_ <;> intro hg <;> (try simp only[dcT,dcF,bnT,bnF] at hg))|refine st_nil ?_|refine st_tN ?_|refine st_seq ?_|refine st_block ?_|refine st_skip ?_|refine st_ret ?_|refine st_tR ?_|refine st_bN ?_|refine st_bR ?_)
 all_goals
  simp (disch:=omega) only[AEnd,Tryz.results30,aresK,fin,go_sem,implies_true,true_and,and_true,List.reverse_cons,List.reverse_nil]
  unfold oth;first|rw [if_pos ‹q=s.a›]|rw [if_neg ‹¬ q=s.a›,if_pos ‹q=s.b›]|rw [if_neg ‹¬ q=s.a›,if_neg ‹¬ q=s.b›]
theorem c73 (lo hi m:Int):Pure Tryz.prog 73 [.agg [.int .i64 lo,.int .i64 hi],.int .i64 m] (fun v=>v=.int .i64 (spanE lo hi m)):=by
 intro h
 refine ACalls.forget (ACalls.of tab mixed Tryz.call73 Tryz.func73 rfl (fi:=⟨20,[],[2,11],none,[]⟩) rfl rfl (Nat.le_of_ble_eq_true rfl) (by decide) ?_)
 unfold startA
 repeat' (first|refine st_seq_reg rfl (by first|(simp only[go_sem];rfl)|rfl) (by first|(simp only[go_sem];rfl)|rfl) ?_|refine st_op ?_|refine st_det rfl (by simp (disch:=omega) only[go_sem,wr_i64];rfl) ?_|(refine st_pureE (by first|(simp (disch:=omega) only[go_sem];rfl)|rfl) rfl (c46b 0 m lo hi) (by first|(simp only[go_sem];rfl)|rfl) (by intro n;first|(simp (disch:=omega) only[go_sem];rfl)|rfl) ?_;intro n hn)|(refine st_condS rfl ?_ ?_ <;> intro hg <;> (try simp only[dcT,dcF,bnT,bnF] at hg))|refine st_nil ?_|refine st_tN ?_|refine st_seq ?_|refine st_block ?_|refine st_skip ?_|refine st_ret ?_|refine st_tR ?_|refine st_bN ?_|refine st_bR ?_)
 all_goals
  simp (disch:=omega) only[AEnd,Tryz.results73,aresK,fin,go_sem,implies_true,true_and,and_true,List.reverse_cons,List.reverse_nil]
  unfold spanE;(repeat' split) <;> first|rfl|omega
theorem c64 (lo hi m:Int):Pure Tryz.prog 64 [.agg [.int .i64 lo,.int .i64 hi],.int .i64 m] (fun v=>v=.int .i64 (spanE lo hi m)):=by
 intro h
 refine ACalls.forget (ACalls.of tab mixed Tryz.call64 Tryz.func64 rfl (fi:=⟨22,[],[2],none,[]⟩) rfl rfl (Nat.le_of_ble_eq_true rfl) (by decide) ?_)
 unfold startA
 repeat' (first|refine st_seq_reg rfl (by first|(simp only[go_sem];rfl)|rfl) (by first|(simp only[go_sem];rfl)|rfl) ?_|refine st_op ?_|refine st_det rfl (by simp (disch:=omega) only[go_sem,wr_i64];rfl) ?_|(refine st_pureE (by first|(simp (disch:=omega) only[go_sem];rfl)|rfl) rfl (c43 lo 0 m) (by first|(simp only[go_sem];rfl)|rfl) (by intro n;first|(simp (disch:=omega) only[go_sem];rfl)|rfl) ?_;intro n hn)|(refine st_pureE (by first|(simp (disch:=omega) only[go_sem];rfl)|rfl) rfl (c43 hi 0 m) (by first|(simp only[go_sem];rfl)|rfl) (by intro n;first|(simp (disch:=omega) only[go_sem];rfl)|rfl) ?_;intro n hn)|refine st_gT rfl rfl rfl ?_|refine st_gF rfl rfl rfl ?_|(refine st_gS rfl rfl ?_ ?_ <;> intro hg <;> (try simp only[dcT,dcF,bnT,bnF] at hg))|refine st_condT rfl ?_|(refine st_condS rfl ?_ ?_ <;> intro hg <;> (try simp only[dcT,dcF,bnT,bnF] at hg))|refine st_nil ?_|refine st_tN ?_|refine st_seq ?_|refine st_skip ?_|refine st_ret ?_|refine st_tR ?_)
 all_goals
  simp (disch:=omega) only[AEnd,Tryz.results64,aresK,fin,go_sem,implies_true,true_and,and_true,List.reverse_cons,List.reverse_nil]
  unfold spanE;(repeat' split) <;> first|rfl|omega
end Go.Proofs.YtoafigpikgigaaaGreatDoor

namespace Go.Proofs.YtoafigpikgigaaaGreatDoor
open Go.Av
attribute [local irreducible] thenA blockA awp awpOps awpD awp1
attribute [local go_sem_proc] Nat.reduceAdd Nat.reduceMul Nat.reduceEqDiff Nat.reduceBEq Nat.reduceLeDiff
attribute [local go_sem_proc ↓] reduceIte
attribute [local go_sem] if_yes if_no
set_option maxHeartbeats 8000000
set_option maxRecDepth 20000
theorem c58 (t:Tw) (g:Gp) (h1:t.rooms.length≤12) (h2:t.sts.length≤12):Pure Tryz.prog 58 [t.av,.agg g.row] (fun v=>v=.int .i64 (grpE t g)):=by
 have k1:=c73 g.lo g.hi 1000000
 have k2:=c73 g.alo g.ahi 96
 have k3:=c46a 1 96 g.stay
 have k4:=c46a 0 (t.rooms.length - 1:Int) g.first
 intro h
 refine ACalls.forget (ACalls.of tab mixed Tryz.call58 Tryz.func58 rfl (fi:=⟨70,[],[2,3,25,35,57],none,[]⟩) rfl rfl (Nat.le_of_ble_eq_true rfl) (by decide) ?_)
 unfold startA
 simp only[go_sem]
 repeat' (first|refine st_seq_reg rfl (by first|(simp only[go_sem,Lm];rfl)|rfl) (by first|(simp only[go_sem,Lm];rfl)|rfl) ?_|refine st_op ?_|refine st_det rfl (by simp (disch:=omega) only[go_sem,wr_i64,Lm];rfl) ?_|(refine st_pureE (by first|(simp (disch:=omega) only[go_sem,Lm];rfl)|rfl) rfl (k1) (by first|(simp only[go_sem,Lm];rfl)|rfl) (by intro n;first|(simp (disch:=omega) only[go_sem];rfl)|rfl) ?_;intro n hn)|(refine st_pureE (by first|(simp (disch:=omega) only[go_sem,Lm];rfl)|rfl) rfl (k2) (by first|(simp only[go_sem,Lm];rfl)|rfl) (by intro n;first|(simp (disch:=omega) only[go_sem];rfl)|rfl) ?_;intro n hn)|(refine st_pureE (by first|(simp (disch:=omega) only[go_sem,Lm];rfl)|rfl) rfl (k3) (by first|(simp only[go_sem,Lm];rfl)|rfl) (by intro n;first|(simp (disch:=omega) only[go_sem];rfl)|rfl) ?_;intro n hn)|(refine st_pureE (by first|(simp (disch:=omega) only[go_sem,Lm];rfl)|rfl) rfl (k4) (by first|(simp only[go_sem,Lm];rfl)|rfl) (by intro n;first|(simp (disch:=omega) only[go_sem];rfl)|rfl) ?_;intro n hn)|(refine st_condS rfl ?_ ?_ <;> intro hg <;> (try simp only[dcT,dcF,bnT,bnF] at hg))|refine st_nil ?_|refine st_tN ?_|refine st_seq ?_|refine st_block ?_|refine st_skip ?_|refine st_ret ?_|refine st_tR ?_|refine st_bN ?_|refine st_bR ?_)
 all_goals try (exfalso;omega)
 ·simp (disch:=omega) only[AEnd,Tryz.results58,aresK,fin,go_sem,implies_true,true_and,and_true,List.reverse_cons,List.reverse_nil]
  unfold grpE;rw [if_pos (by omega)]
 ·simp (disch:=omega) only[AEnd,Tryz.results58,aresK,fin,go_sem,implies_true,true_and,and_true,List.reverse_cons,List.reverse_nil]
  unfold grpE;rw [if_neg (by omega),if_pos (by omega)]
 ·simp (disch:=omega) only[AEnd,Tryz.results58,aresK,fin,go_sem,implies_true,true_and,and_true,List.reverse_cons,List.reverse_nil]
  unfold grpE;rw [if_neg (by omega),if_neg (by omega),if_pos (by omega)]
 ·simp (disch:=omega) only[AEnd,Tryz.results58,aresK,fin,go_sem,implies_true,true_and,and_true,List.reverse_cons,List.reverse_nil]
  unfold grpE;rw [if_neg (by omega),if_neg (by omega),if_neg (by omega),if_pos (by omega)]
 ·simp (disch:=omega) only[AEnd,Tryz.results58,aresK,fin,go_sem,implies_true,true_and,and_true,List.reverse_cons,List.reverse_nil]
  unfold grpE;rw [if_neg (by omega),if_neg (by omega),if_neg (by omega),if_neg (by omega),if_pos (by omega)]
 have hE:grpE t g=errN (pathF t g.path g.first) g.path.length:=by
  unfold grpE;rw [if_neg (by omega),if_neg (by omega),if_neg (by omega),if_neg (by omega),if_neg (by omega)]
 refine st_loopC (α:=Nat) tab mixed [] [] (by repeat (first|exact trivial|refine ⟨rfl,?_⟩)) [] [] (by repeat (first|exact trivial|refine ⟨rfl,?_⟩)) (fun i=>[(48,.int .i64 (i:Nat)),(7,.int .i64 (wayN t g.path g.first i))]) [(0,_),(1,_),(2,_),(3,_),(4,_),(5,_),(6,_),(46,_),(47,_)] (fun _=>[]) [] (fun i=>i≤g.path.length∧errN (pathF t g.path g.first) i=0) (fun i=>g.path.length - i) (by decide) 0 ⟨by omega,rfl⟩ (by (try simp only[go_sem]);repeat' (first|exact trivial|refine And.intro ?_ ?_|rfl|(simp (disch:=omega) only[go_sem,if_yes,if_no,if_no];rfl)|(simp (disch:=omega) only[go_sem,if_yes,if_no,if_no]))) (by (try simp only[go_sem]);repeat' (first|exact trivial|refine And.intro ?_ ?_|rfl|(simp (disch:=omega) only[go_sem,if_yes,if_no,if_no];rfl)|(simp (disch:=omega) only[go_sem,if_yes,if_no,if_no]))) (by first|(simp only[go_sem];rfl)|rfl) (by intro n;simp only[go_sem];rfl) ?_
 rintro i c ⟨hi',he⟩ hc
 simp only[go_sem]
 have q1:=c46a 0 (t.sts.length - 1:Int) (elt g.path i)
 have q2:=c54 (sx t.sts (elt g.path i).toNat) (wayN t g.path g.first i)
 have e1:errN (pathF t g.path g.first) (i+1)=pathF t g.path g.first i:=errN_next he
 have e2:pathF t g.path g.first i=if ¬ (0≤elt g.path i∧elt g.path i < t.sts.length) then 7 else if wayN t g.path g.first (i+1) < 0 then 1 else 0:=rfl
 have e3:wayN t g.path g.first (i+1)=oth (sx t.sts (elt g.path i).toNat) (wayN t g.path g.first i):=rfl
 repeat' (first|refine st_seq_reg rfl (by first|(simp only[go_sem,Lm];rfl)|rfl) (by first|(simp only[go_sem,Lm];rfl)|rfl) ?_|refine st_reg rfl (by first|(simp only[go_sem,Lm];rfl)|rfl) (by first|(simp only[go_sem,Lm];rfl)|rfl) ?_|refine st_op ?_|refine st_det rfl (by simp (disch:=omega) only[go_sem,wr_i64,Lm];rfl) ?_|(refine st_pureE (by first|(simp (disch:=omega) only[go_sem,Lm];rfl)|rfl) rfl (q1) (by first|(simp only[go_sem,Lm];rfl)|rfl) (by intro n;first|(simp (disch:=omega) only[go_sem];rfl)|rfl) ?_;intro n hn)|(refine st_pureE (by first|(simp (disch:=omega) only[go_sem,Lm];rfl)|rfl) rfl (q2) (by first|(simp only[go_sem,Lm];rfl)|rfl) (by intro n;first|(simp (disch:=omega) only[go_sem];rfl)|rfl) ?_;intro n hn)|(refine st_condS rfl ?_ ?_ <;> intro hg <;> (try simp only[dcT,dcF,bnT,bnF] at hg))|refine st_nil ?_|refine st_tN ?_|refine st_seq ?_|refine st_block ?_|refine st_skip ?_|refine st_exit ?_|refine st_ret ?_|refine st_tE ?_|refine st_tR ?_|refine st_bN ?_|refine st_bR ?_|refine st_bH ?_)
 all_goals try (exfalso;omega)
 ·have hv:pathF t g.path g.first i=7:=by rw [e2,if_pos (by omega)]
  simp (disch:=omega) only[AEnd,Tryz.results58,aresK,fin,go_sem,implies_true,true_and,and_true,List.reverse_cons,List.reverse_nil]
  rw [hE,errN_stop he (by omega) (by omega),hv]
 ·have hv:pathF t g.path g.first i=1:=by rw [e2,if_neg (by omega),if_pos (by omega)]
  simp (disch:=omega) only[AEnd,Tryz.results58,aresK,fin,go_sem,implies_true,true_and,and_true,List.reverse_cons,List.reverse_nil]
  rw [hE,errN_stop he (by omega) (by omega),hv]
 ·have hv:pathF t g.path g.first i=0:=by rw [e2,if_neg (by omega),if_neg (by omega)]
  refine ⟨i+1,⟨by omega,by omega⟩,by omega,(by repeat' (first|exact trivial|refine And.intro ?_ ?_|rfl|(simp (disch:=omega) only[go_sem,if_yes,if_no,if_no];rfl)|(simp (disch:=omega) only[go_sem,if_yes,if_no,if_no]))),(by repeat' (first|exact trivial|refine And.intro ?_ ?_|rfl|(simp (disch:=omega) only[go_sem,if_yes,if_no,if_no];rfl)|(simp (disch:=omega) only[go_sem,if_yes,if_no,if_no]))),rfl,(by first|exact HOld.of _ (by omega)|exact HOld.put _ _ _ (by omega))⟩
 ·simp (disch:=omega) only[AEnd,Tryz.results58,aresK,fin,go_sem,implies_true,true_and,and_true,List.reverse_cons,List.reverse_nil]
  rw [hE,← (by omega:i=g.path.length),he]
end Go.Proofs.YtoafigpikgigaaaGreatDoor

namespace Go.Proofs.YtoafigpikgigaaaGreatDoor
open Go.Av
attribute [local irreducible] thenA blockA awp awpOps awpD awp1
attribute [local go_sem_proc] Nat.reduceAdd Nat.reduceMul Nat.reduceEqDiff Nat.reduceBEq Nat.reduceLeDiff
attribute [local go_sem_proc ↓] reduceIte
attribute [local go_sem] if_yes if_no
set_option maxHeartbeats 8000000
set_option maxRecDepth 20000
theorem c44 (t:Tw) (g:Gp) (h1:t.rooms.length≤12) (h2:t.sts.length≤12):Pure Tryz.prog 44 [t.av,.agg g.row] (fun v=>v=.int .i64 (grpE t g)):=by
 have k1:=c64 g.lo g.hi 1000000
 have k2:=c64 g.alo g.ahi 96
 have k3:=c43 g.stay 1 96
 have k4:=c43 g.first 0 (t.rooms.length - 1:Int)
 intro h
 refine ACalls.forget (ACalls.of tab mixed Tryz.call44 Tryz.func44 rfl (fi:=⟨70,[],[2,3],none,[(17,[0,1,0,7,15,0,32,96,224,511,1023],[(0,false),(1,true),(2,false),(3,false),(4,true),(5,false),(6,true),(7,false),(8,false),(9,false),(10,false)]),(19,[0,1,0,4,0,28,60,127,255,0,1023,2047],[(0,false),(1,true),(2,false),(3,true),(4,false),(5,false),(6,true),(7,false),(8,true),(9,false),(10,false),(11,false)])]⟩) rfl rfl (Nat.le_of_ble_eq_true rfl) (by decide) ?_)
 unfold startA
 simp only[go_sem]
 repeat' (first|refine st_seq_reg rfl (by first|(simp only[go_sem,Lm];rfl)|rfl) (by first|(simp only[go_sem,Lm];rfl)|rfl) ?_|refine st_op ?_|refine st_det rfl (by simp (disch:=omega) only[go_sem,wr_i64,Lm];rfl) ?_|(refine st_pureE (by first|(simp (disch:=omega) only[go_sem,Lm];rfl)|rfl) rfl (k1) (by first|(simp only[go_sem,Lm];rfl)|rfl) (by intro n;first|(simp (disch:=omega) only[go_sem];rfl)|rfl) ?_;intro n hn)|(refine st_pureE (by first|(simp (disch:=omega) only[go_sem,Lm];rfl)|rfl) rfl (k2) (by first|(simp only[go_sem,Lm];rfl)|rfl) (by intro n;first|(simp (disch:=omega) only[go_sem];rfl)|rfl) ?_;intro n hn)|(refine st_pureE (by first|(simp (disch:=omega) only[go_sem,Lm];rfl)|rfl) rfl (k3) (by first|(simp only[go_sem,Lm];rfl)|rfl) (by intro n;first|(simp (disch:=omega) only[go_sem];rfl)|rfl) ?_;intro n hn)|(refine st_pureE (by first|(simp (disch:=omega) only[go_sem,Lm];rfl)|rfl) rfl (k4) (by first|(simp only[go_sem,Lm];rfl)|rfl) (by intro n;first|(simp (disch:=omega) only[go_sem];rfl)|rfl) ?_;intro n hn)|(refine st_condS rfl ?_ ?_ <;> intro hg <;> (try simp only[dcT,dcF,bnT,bnF] at hg))|refine st_nil ?_|refine st_tN ?_|refine st_seq ?_|refine st_block ?_|refine st_skip ?_|refine st_ret ?_|refine st_tR ?_)
 all_goals try (exfalso;omega)
 ·simp (disch:=omega) only[AEnd,Tryz.results44,aresK,fin,go_sem,implies_true,true_and,and_true,List.reverse_cons,List.reverse_nil]
  unfold grpE;rw [if_pos (by omega)]
 ·simp (disch:=omega) only[AEnd,Tryz.results44,aresK,fin,go_sem,implies_true,true_and,and_true,List.reverse_cons,List.reverse_nil]
  unfold grpE;rw [if_neg (by omega),if_pos (by omega)]
 ·simp (disch:=omega) only[AEnd,Tryz.results44,aresK,fin,go_sem,implies_true,true_and,and_true,List.reverse_cons,List.reverse_nil]
  unfold grpE;rw [if_neg (by omega),if_neg (by omega),if_pos (by omega)]
 ·simp (disch:=omega) only[AEnd,Tryz.results44,aresK,fin,go_sem,implies_true,true_and,and_true,List.reverse_cons,List.reverse_nil]
  unfold grpE;rw [if_neg (by omega),if_neg (by omega),if_neg (by omega),if_pos (by omega)]
 ·simp (disch:=omega) only[AEnd,Tryz.results44,aresK,fin,go_sem,implies_true,true_and,and_true,List.reverse_cons,List.reverse_nil]
  unfold grpE;rw [if_neg (by omega),if_neg (by omega),if_neg (by omega),if_neg (by omega),if_pos (by omega)]
 have hE:grpE t g=errN (pathF t g.path g.first) g.path.length:=by
  unfold grpE;rw [if_neg (by omega),if_neg (by omega),if_neg (by omega),if_neg (by omega),if_neg (by omega)]
 refine st_loopC (α:=Nat) tab mixed [] [] (by repeat (first|exact trivial|refine ⟨rfl,?_⟩)) [] [] (by repeat (first|exact trivial|refine ⟨rfl,?_⟩)) (fun i=>[(8,.int .i64 (i:Nat)),(7,.int .i64 (wayN t g.path g.first i))]) [(0,_),(1,_),(2,_),(3,_),(4,_),(5,_),(6,_)] (fun _=>[]) [] (fun i=>i≤g.path.length∧errN (pathF t g.path g.first) i=0) (fun i=>g.path.length - i) (by decide) 0 ⟨by omega,rfl⟩ (by (try simp only[go_sem]);repeat' (first|exact trivial|refine And.intro ?_ ?_|rfl|(simp (disch:=omega) only[go_sem,if_yes,if_no,if_no];rfl)|(simp (disch:=omega) only[go_sem,if_yes,if_no,if_no]))) (by (try simp only[go_sem]);repeat' (first|exact trivial|refine And.intro ?_ ?_|rfl|(simp (disch:=omega) only[go_sem,if_yes,if_no,if_no];rfl)|(simp (disch:=omega) only[go_sem,if_yes,if_no,if_no]))) (by first|(simp only[go_sem];rfl)|rfl) (by intro n;simp only[go_sem];rfl) ?_
 rintro i c ⟨hi',he⟩ hc
 simp only[go_sem]
 have q1:=c43 (elt g.path i) 0 (t.sts.length - 1:Int)
 have q2:=c30 (sx t.sts (elt g.path i).toNat) (wayN t g.path g.first i)
 have e1:errN (pathF t g.path g.first) (i+1)=pathF t g.path g.first i:=errN_next he
 have e2:pathF t g.path g.first i=if ¬ (0≤elt g.path i∧elt g.path i < t.sts.length) then 7 else if wayN t g.path g.first (i+1) < 0 then 1 else 0:=rfl
 have e3:wayN t g.path g.first (i+1)=oth (sx t.sts (elt g.path i).toNat) (wayN t g.path g.first i):=rfl
 repeat' (first|refine st_seq_reg rfl (by first|(simp only[go_sem,Lm];rfl)|rfl) (by first|(simp only[go_sem,Lm];rfl)|rfl) ?_|refine st_reg rfl (by first|(simp only[go_sem,Lm];rfl)|rfl) (by first|(simp only[go_sem,Lm];rfl)|rfl) ?_|refine st_seq_draw rfl (by first|(simp only[go_sem,Lm];rfl)|rfl) (by first|(simp only[go_sem,Lm];rfl)|rfl) ?_|refine st_op ?_|refine st_det rfl (by simp (disch:=omega) only[go_sem,wr_i64,Lm];rfl) ?_|refine st_dop rfl ?_|(refine st_pureE (by first|(simp (disch:=omega) only[go_sem,Lm];rfl)|rfl) rfl (q1) (by first|(simp only[go_sem,Lm];rfl)|rfl) (by intro n;first|(simp (disch:=omega) only[go_sem];rfl)|rfl) ?_;intro n hn)|(refine st_pureE (by first|(simp (disch:=omega) only[go_sem,Lm];rfl)|rfl) rfl (q2) (by first|(simp only[go_sem,Lm];rfl)|rfl) (by intro n;first|(simp (disch:=omega) only[go_sem];rfl)|rfl) ?_;intro n hn)|(refine st_condS rfl ?_ ?_ <;> intro hg <;> (try simp only[dcT,dcF,bnT,bnF] at hg))|refine st_nil ?_|refine st_dnil ?_|refine st_tN ?_|refine st_seq ?_|refine st_block ?_|refine st_skip ?_|refine st_exit ?_|refine st_ret ?_|refine st_tE ?_|refine st_tR ?_|refine st_bN ?_|refine st_bR ?_|refine st_bH ?_)
 all_goals try (exfalso;omega)
 ·have hv:pathF t g.path g.first i=7:=by rw [e2,if_pos (by omega)]
  simp (disch:=omega) only[AEnd,Tryz.results44,aresK,fin,go_sem,implies_true,true_and,and_true,List.reverse_cons,List.reverse_nil]
  rw [hE,errN_stop he (by omega) (by omega),hv]
 ·have hv:pathF t g.path g.first i=1:=by rw [e2,if_neg (by omega),if_pos (by omega)]
  simp (disch:=omega) only[AEnd,Tryz.results44,aresK,fin,go_sem,implies_true,true_and,and_true,List.reverse_cons,List.reverse_nil]
  rw [hE,errN_stop he (by omega) (by omega),hv]
 ·have hv:pathF t g.path g.first i=0:=by rw [e2,if_neg (by omega),if_neg (by omega)]
  refine ⟨i+1,⟨by omega,by omega⟩,by omega,(by repeat' (first|exact trivial|refine And.intro ?_ ?_|rfl|(simp (disch:=omega) only[go_sem,if_yes,if_no,if_no];rfl)|(simp (disch:=omega) only[go_sem,if_yes,if_no,if_no]))),(by repeat' (first|exact trivial|refine And.intro ?_ ?_|rfl|(simp (disch:=omega) only[go_sem,if_yes,if_no,if_no];rfl)|(simp (disch:=omega) only[go_sem,if_yes,if_no,if_no]))),rfl,(by first|exact HOld.of _ (by omega)|exact HOld.put _ _ _ (by omega))⟩
 ·simp (disch:=omega) only[AEnd,Tryz.results44,aresK,fin,go_sem,implies_true,true_and,and_true,List.reverse_cons,List.reverse_nil]
  rw [hE,← (by omega:i=g.path.length),he]
end Go.Proofs.YtoafigpikgigaaaGreatDoor
