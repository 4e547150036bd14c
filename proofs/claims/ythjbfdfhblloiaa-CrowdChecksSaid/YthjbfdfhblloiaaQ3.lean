/- Contracts of functions that the claim reaches: what each call gives, told in our own logic. Conditions: those of each theorem. -/
import Derived.Test.YthjbfdfhblloiaaAvT
open Nat (reduceAdd reduceMul reduceEqDiff reduceLeDiff)
open List (length_map)
set_option linter.all false
set_option linter.unusedSimpArgs false
set_option linter.unusedVariables false
namespace Go.Proofs.Ythjbfdfhblloiaa
open Go.Av
set_option maxRecDepth 20000
theorem mixed:Try.prog.follows .mixedOrders=true:=by decide
theorem drop_getD {α:Type} {l:List α} {i:Nat} (d:α) (h:i < l.length):l.drop i=l.getD i d :: l.drop (i+1):=by
  rw [List.drop_eq_getElem_cons h,List.getD_eq_getElem?_getD,List.getElem?_eq_getElem h];rfl
def iv (n:Int):List AV:=[.int .i64 n]
@[go_sem] theorem iv_eq (n:Int):iv n=[.int .i64 n]:=rfl
@[go_sem] theorem map_len {α β:Type} (f:α→β) (l:List α):(l.map f).length=l.length:=length_map f
@[go_sem] theorem toNat_cast (n:Nat):((n:Nat):Int).toNat=n:=rfl
structure Sx where
  a:Int
  b:Int
structure Gp where
  lo:Int
  hi:Int
  alo:Int
  ahi:Int
  stay:Int
  first:Int
  path:List Int
structure Tw where
  rooms:List Int
  sts:List Sx
  gs:List Gp
  steps:Int
def Sx.row (x:Sx):List AV:=[.int .i64 x.a,.int .i64 x.b]
@[go_sem] theorem Sx.row_eq (x:Sx):x.row=[.int .i64 x.a,.int .i64 x.b]:=rfl
def Gp.row (g:Gp):List AV:=[.int .i64 g.lo,.int .i64 g.hi,.int .i64 g.alo,.int .i64 g.ahi,.int .i64 g.stay,.int .i64 g.first,.lst 1 (g.path.map iv)]
@[go_sem] theorem Gp.row_eq (g:Gp):g.row=[.int .i64 g.lo,.int .i64 g.hi,.int .i64 g.alo,.int .i64 g.ahi,.int .i64 g.stay,.int .i64 g.first,.lst 1 (g.path.map iv)]:=rfl
def Tw.av (t:Tw):AV:=.agg [.lst 1 (t.rooms.map iv),.lst 2 (t.sts.map Sx.row),.lst 7 (t.gs.map Gp.row),.int .i64 t.steps]
@[go_sem] theorem Tw.av_eq (t:Tw):t.av=.agg [.lst 1 (t.rooms.map iv),.lst 2 (t.sts.map Sx.row),.lst 7 (t.gs.map Gp.row),.int .i64 t.steps]:=rfl
def elt (l:List Int) (i:Nat):Int:=l.getD i 0
@[go_sem] theorem ivs_getD {l:List Int} {i:Nat} (h:i < l.length):(l.map iv).getD i []=[.int .i64 (elt l i)]:=by
  simp [List.getD_eq_getElem?_getD,h,iv,elt]
def sx (l:List Sx) (i:Nat):Sx:=l.getD i ⟨0,0⟩
def gp (l:List Gp) (i:Nat):Gp:=l.getD i ⟨0,0,0,0,0,0,[]⟩
@[go_sem] theorem srow_getD {l:List Sx} {i:Nat} (h:i < l.length):(l.map Sx.row).getD i []=(sx l i).row:=by
  simp [List.getD_eq_getElem?_getD,h,sx]
@[go_sem] theorem grow_getD {l:List Gp} {i:Nat} (h:i < l.length):(l.map Gp.row).getD i []=(gp l i).row:=by
  simp [List.getD_eq_getElem?_getD,h,gp]
theorem elt_mem {l:List Int} {i:Nat} (h:i < l.length):elt l i ∈ l:=by
  unfold elt;rw [List.getD_eq_getElem?_getD,List.getElem?_eq_getElem h];exact List.getElem_mem h
theorem sx_mem {l:List Sx} {i:Nat} (h:i < l.length):sx l i ∈ l:=by
  unfold sx;rw [List.getD_eq_getElem?_getD,List.getElem?_eq_getElem h];exact List.getElem_mem h
theorem gp_mem {l:List Gp} {i:Nat} (h:i < l.length):gp l i ∈ l:=by
  unfold gp;rw [List.getD_eq_getElem?_getD,List.getElem?_eq_getElem h];exact List.getElem_mem h
def errN (f:Nat→Int):Nat→Int
  | 0=>0
  | n+1=>if errN f n ≠ 0 then errN f n else f n
theorem errN_next {f:Nat→Int} {i:Nat} (h:errN f i=0):errN f (i+1)=f i:=by
  show (if errN f i ≠ 0 then errN f i else f i)=f i
  rw [if_neg (fun e=>e h)]
theorem errN_keep {f:Nat→Int} {i:Nat} (h:errN f i ≠ 0):∀ {n:Nat},i≤n→errN f n=errN f i
  | 0, hn => by obtain rfl : i = 0 := by omega
                rfl
  | n+1,hn=>by
    by_cases e:i=n+1
    · rw [e]
    · have ih:=errN_keep h (n:=n) (by omega)
      show (if errN f n ≠ 0 then errN f n else f n)=_
      rw [ih,if_pos h]
theorem errN_stop {f:Nat→Int} {i n:Nat} (h:errN f i=0) (hf:f i ≠ 0) (hi:i < n):errN f n=f i:=by
  have e:=errN_next h
  rw [← e]
  exact errN_keep (by rw [e];exact hf) (by omega)
theorem errN_zero {f:Nat→Int}:∀ {n:Nat},errN f n=0→∀ i,i < n→f i=0
  | 0,_,i,hi=>absurd hi (Nat.not_lt_zero _)
  | n+1,h,i,hi=>by
    have h':(if errN f n ≠ 0 then errN f n else f n)=0:=h
    by_cases e:errN f n=0
    · rw [if_neg (fun h=>h e)] at h'
      by_cases e2:i=n
      · rw [e2];exact h'
      · exact errN_zero e i (by omega)
    · rw [if_pos e] at h';exact absurd h' e
theorem errN_all {f:Nat→Int}:∀ {n:Nat},(∀ i,i < n→f i=0)→errN f n=0
  | 0,_=>rfl
  | n+1,h=>by
    have ih:=errN_all (f:=f) (n:=n) fun i hi=>h i (by omega)
    rw [errN_next ih];exact h n (by omega)
def allIn (lo hi:Int) (l:List Int):Bool:=l.all fun a=>decide (lo≤a∧a≤hi)
theorem allIn_elt {lo hi:Int} {l:List Int} (h:allIn lo hi l=true) (i:Nat) (hi':i < l.length):lo≤elt l i∧elt l i≤hi :=
  of_decide_eq_true (List.all_eq_true.1 h (elt l i) (elt_mem hi'))
def oth (s:Sx) (q:Int):Int:=if q=s.a then s.b else if q=s.b then s.a else -1
def spanE (lo hi m:Int):Int:=if ¬ (0≤lo∧lo≤m∧0≤hi∧hi≤m) then 2 else if hi < lo then 9 else 0
def wayN (t:Tw) (p:List Int) (q:Int):Nat→Int
  | 0=>q
  | i+1=>oth (sx t.sts (elt p i).toNat) (wayN t p q i)
def pathF (t:Tw) (p:List Int) (q:Int) (i:Nat):Int:=if ¬ (0≤elt p i∧elt p i < t.sts.length) then 7 else if wayN t p q (i+1) < 0 then 1 else 0
def grpE (t:Tw) (g:Gp):Int :=
  if spanE g.lo g.hi 1000000 ≠ 0 then spanE g.lo g.hi 1000000 else if spanE g.alo g.ahi 96 ≠ 0 then spanE g.alo g.ahi 96 else if ¬ (1≤g.stay∧g.stay≤96) then 2
  else if ¬ (0≤g.first∧g.first < t.rooms.length) then 7 else if 12 < g.path.length then 5 else errN (pathF t g.path g.first) g.path.length
def stE (t:Tw) (i:Nat):Int:=if ¬ (0≤(sx t.sts i).a∧(sx t.sts i).a < t.rooms.length∧0≤(sx t.sts i).b∧(sx t.sts i).b < t.rooms.length) then 7 else if (sx t.sts i).a=(sx t.sts i).b then 1 else 0
def chkE (t:Tw):Int :=
  if t.rooms.length=0 then 4 else if 12 < t.rooms.length then 5 else if allIn 0 1000000 t.rooms=false then 2 else if 12 < t.sts.length then 5
  else if errN (stE t) t.sts.length ≠ 0 then errN (stE t) t.sts.length else if ¬ (0≤t.steps∧t.steps≤96) then 2 else if 12 < t.gs.length then 5 else errN (fun i=>grpE t (gp t.gs i)) t.gs.length
def cloF (t:Tw) (c:List Int) (i:Nat):Int:=if ¬ (0≤elt c i∧elt c i < t.sts.length) then 7 else if 0 < i∧elt c i≤elt c (i - 1) then 9 else 0
def cloE (t:Tw) (c:List Int):Int:=if chkE t ≠ 0 then chkE t else errN (cloF t c) c.length
structure GpOk (t:Tw) (g:Gp):Prop where
  size:0≤g.lo∧g.lo≤g.hi∧g.hi≤1000000
  at_:0≤g.alo∧g.alo≤g.ahi∧g.ahi≤96
  stay:1≤g.stay∧g.stay≤96
  first:0≤g.first∧g.first < t.rooms.length
  many:g.path.length≤12
  st:∀ i,i < g.path.length→0≤elt g.path i∧elt g.path i < t.sts.length
  way:∀ i,i≤g.path.length→0≤wayN t g.path g.first i
structure TwOk (t:Tw):Prop where
  r0:0 < t.rooms.length
  rn:t.rooms.length≤12
  room:∀ i,i < t.rooms.length→0≤elt t.rooms i∧elt t.rooms i≤1000000
  sn:t.sts.length≤12
  st:∀ i,i < t.sts.length→0≤(sx t.sts i).a∧(sx t.sts i).a < t.rooms.length∧0≤(sx t.sts i).b∧(sx t.sts i).b < t.rooms.length∧(sx t.sts i).a ≠ (sx t.sts i).b
  steps:0≤t.steps∧t.steps≤96
  gn:t.gs.length≤12
  g:∀ i,i < t.gs.length→GpOk t (gp t.gs i)
theorem spanE_zero {lo hi m:Int} (h:spanE lo hi m=0):0≤lo∧lo≤hi∧hi≤m:=by
  unfold spanE at h
  split at h
  · omega
  · split at h <;> omega
theorem grpOk {t:Tw} {g:Gp} (h:grpE t g=0):GpOk t g:=by
  unfold grpE at h
  by_cases h1:spanE g.lo g.hi 1000000=0
  case neg=>rw [if_pos h1] at h;exact absurd h h1
  rw [if_neg (fun e=>e h1)] at h
  by_cases h2:spanE g.alo g.ahi 96=0
  case neg=>rw [if_pos h2] at h;exact absurd h h2
  rw [if_neg (fun e=>e h2)] at h
  by_cases h3:1≤g.stay∧g.stay≤96
  case neg=>rw [if_pos h3] at h;cases h
  rw [if_neg (fun e=>e h3)] at h
  by_cases h4:0≤g.first∧g.first < t.rooms.length
  case neg=>rw [if_pos h4] at h;cases h
  rw [if_neg (fun e=>e h4)] at h
  by_cases h5:12 < g.path.length
  · rw [if_pos h5] at h;cases h
  rw [if_neg h5] at h
  have hz:=errN_zero h
  have hst:∀ i,i < g.path.length→0≤elt g.path i∧elt g.path i < t.sts.length:=fun i hi=>by
    have:=hz i hi
    unfold pathF at this
    by_cases c:0≤elt g.path i∧elt g.path i < t.sts.length
    · exact c
    · rw [if_pos c] at this;cases this
  refine ⟨spanE_zero h1,spanE_zero h2,h3,h4,by omega,hst,fun i hi=>?_⟩
  cases i with
  | zero=>exact h4.1
  | succ i =>
    have:=hz i (by omega)
    unfold pathF at this
    rw [if_neg (fun e=>e (hst i (by omega)))] at this
    by_cases c:wayN t g.path g.first (i+1) < 0
    · rw [if_pos c] at this;cases this
    · omega
theorem townOk {t:Tw} (h:chkE t=0):TwOk t:=by
  unfold chkE at h
  by_cases h1:t.rooms.length=0
  · rw [if_pos h1] at h;cases h
  rw [if_neg h1] at h
  by_cases h2:12 < t.rooms.length
  · rw [if_pos h2] at h;cases h
  rw [if_neg h2] at h
  cases h3:allIn 0 1000000 t.rooms
  · rw [h3] at h;simp at h
  rw [h3,if_neg (by simp)] at h
  by_cases h4:12 < t.sts.length
  · rw [if_pos h4] at h;cases h
  rw [if_neg h4] at h
  by_cases h5:errN (stE t) t.sts.length=0
  case neg=>rw [if_pos h5] at h;exact absurd h h5
  rw [if_neg (fun e=>e h5)] at h
  by_cases h6:0≤t.steps∧t.steps≤96
  case neg=>rw [if_pos h6] at h;cases h
  rw [if_neg (fun e=>e h6)] at h
  by_cases h7:12 < t.gs.length
  · rw [if_pos h7] at h;cases h
  rw [if_neg h7] at h
  refine ⟨by omega,by omega,fun i hi=>allIn_elt h3 i hi,by omega,fun i hi=>?_,h6,by omega,fun i hi=>grpOk (errN_zero h i hi)⟩
  have:=errN_zero h5 i hi
  unfold stE at this
  by_cases c:0≤(sx t.sts i).a∧(sx t.sts i).a < t.rooms.length∧0≤(sx t.sts i).b∧(sx t.sts i).b < t.rooms.length
  · rw [if_neg (fun e=>e c)] at this
    by_cases c2:(sx t.sts i).a=(sx t.sts i).b
    · rw [if_pos c2] at this;cases this
    · exact ⟨c.1,c.2.1,c.2.2.1,c.2.2.2,c2⟩
  · rw [if_pos c] at this;cases this
def wlk (t:Tw) (s:Nat→Int):List Int→Nat→Int→Int
  | [],k,q=>if 0 < k then -1 else q
  | _ :: _,0,q=>q
  | p :: ps,k+1,q=>if s p.toNat=0 then -2 else if s p.toNat=2 then q else wlk t s ps k (oth (sx t.sts p.toNat) q)
def plc (t:Tw) (s:Nat→Int) (g:Gp) (came step:Int):Int:=if step < came then -1 else wlk t s g.path ((step - came).tdiv g.stay).toNat g.first
def someB (t:Tw) (s:Nat→Int) (g:Gp) (q step:Int):Bool:=(List.range (g.ahi - g.alo+1).toNat).any fun i=>decide (plc t s g (g.alo+i) step=q)
def allB (t:Tw) (s:Nat→Int) (g:Gp) (q step:Int):Bool:=(List.range (g.ahi - g.alo+1).toNat).all fun i=>decide (plc t s g (g.alo+i) step=q)
def sumF (F:Nat→Int):Nat→Int
  | 0=>0
  | n+1=>sumF F n+F n
def loF (t:Tw) (s:Nat→Int) (q step:Int) (i:Nat):Int:=if allB t s (gp t.gs i) q step=true then (gp t.gs i).lo else 0
def hiF (t:Tw) (s:Nat→Int) (q step:Int) (i:Nat):Int:=if someB t s (gp t.gs i) q step=true then (gp t.gs i).hi else 0
def ldLo (t:Tw) (s:Nat→Int) (q step:Int):Int:=sumF (loF t s q step) t.gs.length
def ldHi (t:Tw) (s:Nat→Int) (q step:Int):Int:=sumF (hiF t s q step) t.gs.length
end Go.Proofs.Ythjbfdfhblloiaa

namespace Go.Proofs.Ythjbfdfhblloiaa
open Go.Av
attribute [local irreducible] thenA blockA awp awpOps awpD awp1
set_option maxHeartbeats 8000000
set_option maxRecDepth 20000
theorem wr_u64 (n:Int):isU64 (wr .u64 n):=by
  unfold isU64 wr IntKind.wrap
  simp only[IntKind.signed,IntKind.bits,Bool.false_and,Bool.false_eq_true,if_false]
  omega
theorem xor_u64 (a b:Int):isU64 (bitop .xor .u64 a b):=wr_u64 _
theorem st_u64 {P:Program} {tt:Nat→TI} {fi:FI} {k0:Nat} {K:AS→Prop} {T:Nat→AV} {B:Bid→Option (List AV)} {M:List Nat} {H:AH} {d:Tmp} {op:Op} {t:TypeId} {p:String} {a:Array Edge} {g:Option (Nat × Bool)} {v:Int} (hd:isDet ⟨some d,op,t,p,a,g⟩=true) (h:dres tt fi k0 ⟨some d,op,t,p,a,g⟩ ⟨T,B,M,H⟩=some (.int .u64 v,.none)) (hv:isU64 v) (hk:∀ y,isU64 y→K ⟨upd T d (.int .u64 y),B,M,H⟩) :
    awp1 P tt fi k0 ⟨some d,op,t,p,a,g⟩ ⟨T,B,M,H⟩ K:=st_det hd h (hk v hv)
theorem c61 (b:Nat × Nat):Drum Try.prog 61 [.ptr b 0 0] b (fun v=>∃ y,isU64 y∧v=.int .u64 y):=by
  refine Drum.of Try.call61 fun h x hx hu hold=>?_
  refine ACalls.of tab mixed Try.call61 Try.func61 rfl (fi:=⟨31,[],[],none,[]⟩) rfl rfl (Nat.le_of_ble_eq_true rfl) (by decide) ?_
  unfold startA
  simp only[dr] at hx ⊢
  repeat' (first|refine st_seq_reg rfl (by first|(simp only[go_sem,hx];rfl)|rfl) (by first|(simp only[go_sem,hx];rfl)|rfl) ?_|refine st_op ?_|(refine st_u64 rfl (by simp (disch:=omega) only[go_sem,wr_i64,if_yes,if_no,↓reduceIte,reduceAdd,reduceMul,reduceEqDiff,Nat.reduceBEq,reduceLeDiff,hx];rfl) (by first|exact wr_u64 _|exact xor_u64 _ _) ?_;intro y hy)|refine st_det rfl (by simp (disch:=omega) only[go_sem,wr_i64,if_yes,if_no,↓reduceIte,reduceAdd,reduceMul,reduceEqDiff,Nat.reduceBEq,reduceLeDiff,hx];rfl) ?_|refine st_store (by simp (disch:=omega) only[go_sem,wr_i64,if_yes,if_no,↓reduceIte,reduceAdd,reduceMul,reduceEqDiff,Nat.reduceBEq,reduceLeDiff,hx];rfl) ?_|refine st_nil ?_|refine st_ret ?_)
  simp (disch:=omega) only[AEnd,Try.results61,aresK,fin,go_sem,↓reduceIte,reduceEqDiff,reduceAdd,reduceLeDiff,if_yes,if_no,implies_true,true_and,and_true,List.reverse_cons,List.reverse_nil]
  exact ⟨fun b' _ hn=>if_neg hn,⟨_,rfl,by assumption⟩,⟨_,by assumption,rfl⟩⟩
theorem wr_u64i {n:Int} (h:0≤n∧n < 18446744073709551616):wr .u64 n=n:=by
  unfold wr IntKind.wrap
  simp only[IntKind.signed,IntKind.bits,Bool.false_and,Bool.false_eq_true,if_false]
  omega
theorem roll_bd {y n:Int} (hy:isU64 y) (hn:2≤n):0≤(shr .u64 y 1).tmod n∧(shr .u64 y 1).tmod n < n:=by
  have h:0≤shr .u64 y 1:=by
    unfold shr
    rw [Int.fdiv_eq_ediv_of_nonneg _ (by decide)]
    have:=hy.1
    exact Int.ediv_nonneg this (by decide)
  exact ⟨Int.tmod_nonneg _ h,Int.tmod_lt_of_pos _ (by omega)⟩
def Rolls (n:Int) (v:AV):Prop:=∃ r,v=.int .i64 r∧0≤r∧(r < n ∨ r=0)
theorem c18 (b:Nat × Nat) (N:Int) (hN:N≤2000000000):Drum Try.prog 18 [.ptr b 0 0,.int .i64 N] b (Rolls N):=by
  refine Drum.of Try.call18 fun h x hx hu hold=>?_
  refine ACalls.of tab mixed Try.call18 Try.func18 rfl (fi:=⟨14,[],[],none,[]⟩) rfl rfl (Nat.le_of_ble_eq_true rfl) (by decide) ?_
  unfold startA
  repeat' (first|refine st_seq_reg rfl (by first|(simp only[go_sem,hx,wr_u64i];rfl)|rfl) (by first|(simp only[go_sem,hx,wr_u64i];rfl)|rfl) ?_|refine st_op ?_|refine st_det rfl (by simp (disch:=omega) only[go_sem,wr_i64,if_yes,if_no,↓reduceIte,reduceAdd,reduceMul,reduceEqDiff,Nat.reduceBEq,reduceLeDiff,hx,wr_u64i];rfl) ?_|(refine st_drum (by first|(simp (disch:=omega) only[go_sem];rfl)|(simp (disch:=omega) only[go_sem])) rfl (c61 b) (by simp (disch:=omega) only[go_sem];exact hx) hu (by first|(simp only[go_sem];rfl)|rfl) (by intro x' n;simp (disch:=omega) only[go_sem];rfl) ?_;rintro v x' n hu' ⟨y,hy,rfl⟩ hn;have hr:=roll_bd hy (by omega:2≤N))|(refine st_condS rfl ?_ ?_ <;> intro hg <;> (try simp only[decide_eq_true_eq,decide_eq_false_iff_not,Bool.not_eq_true',Bool.not_eq_false'] at hg))|refine st_nil ?_|refine st_tN ?_|refine st_seq ?_|refine st_skip ?_|refine st_ret ?_|refine st_tR ?_)
  · simp (disch:=omega) only[AEnd,Try.results18,aresK,fin,go_sem,↓reduceIte,reduceEqDiff,reduceAdd,reduceLeDiff,if_yes,if_no,implies_true,true_and,and_true,List.reverse_cons,List.reverse_nil]
    exact ⟨⟨x,hx,hu⟩,⟨0,rfl,by omega,by omega⟩⟩
  · simp (disch:=omega) only[AEnd,Try.results18,aresK,fin,go_sem,↓reduceIte,reduceEqDiff,reduceAdd,reduceLeDiff,if_yes,if_no,implies_true,true_and,and_true,List.reverse_cons,List.reverse_nil]
    exact ⟨fun b' _ h2=>if_neg h2,⟨_,rfl,hu'⟩,⟨_,rfl,by omega,by omega⟩⟩
theorem c18' (b:Nat × Nat) (N:Int) (hN:1≤N∧N≤2000000000):Drum Try.prog 18 [.ptr b 0 0,.int .i64 N] b (fun v=>∃ r,v=.int .i64 r∧0≤r∧r < N):=by
  intro h x hx hu
  refine (c18 b N hN.2 h x hx hu).mono ?_
  rintro v h' ⟨x',n,h1,h2,h3,r,h4,h5,h6⟩
  exact ⟨x',n,h1,h2,h3,r,h4,h5,by omega⟩
theorem c43 (b:Nat × Nat) (N:Int) (hN:N≤2000000000):Drum Try.prog 43 [.ptr b 0 0,.int .i64 N] b (fun v=>∃ r,v=.bool r):=by
  refine Drum.of Try.call43 fun h x hx hu hold=>?_
  refine ACalls.of tab mixed Try.call43 Try.func43 rfl (fi:=⟨9,[],[],none,[]⟩) rfl rfl (Nat.le_of_ble_eq_true rfl) (by decide) ?_
  unfold startA
  repeat' (first|refine st_seq_reg rfl (by first|(simp only[go_sem,hx];rfl)|rfl) (by first|(simp only[go_sem,hx];rfl)|rfl) ?_|refine st_op ?_|refine st_det rfl (by simp (disch:=omega) only[go_sem,wr_i64,if_yes,if_no,↓reduceIte,reduceAdd,reduceMul,reduceEqDiff,Nat.reduceBEq,reduceLeDiff,hx];rfl) ?_|(refine st_drum (by first|(simp (disch:=omega) only[go_sem,hx];rfl)|rfl) rfl (c18 b _ hN) (by first|(simp (disch:=omega) only[go_sem,hx];rfl)|rfl) (by assumption) (by first|(simp only[go_sem,hx];rfl)|rfl) (by intro x' n;first|(simp (disch:=omega) only[go_sem];rfl)|rfl) ?_;rintro v x' n hu' ⟨r,rfl,hr1,hr2⟩ hn)|refine st_nil ?_|refine st_ret ?_)
  simp (disch:=omega) only[AEnd,Try.results43,aresK,fin,go_sem,↓reduceIte,reduceEqDiff,reduceAdd,reduceLeDiff,if_yes,if_no,implies_true,true_and,and_true,List.reverse_cons,List.reverse_nil]
  exact ⟨fun b' _ h2=>if_neg h2,⟨_,rfl,hu'⟩,⟨_,rfl⟩⟩
theorem c62 (b:Nat × Nat) (lo hi:Int) (h1:-1000000000≤lo∧lo≤1000000000) (h2:lo - 1≤hi∧hi - lo≤1000000000):Drum Try.prog 62 [.ptr b 0 0,.int .i64 lo,.int .i64 hi] b (fun v=>∃ r,v=.int .i64 r∧lo≤r∧(r≤hi ∨ r=lo)):=by
  refine Drum.of Try.call62 fun h x hx hu hold=>?_
  refine ACalls.of tab mixed Try.call62 Try.func62 rfl (fi:=⟨15,[],[],none,[]⟩) rfl rfl (Nat.le_of_ble_eq_true rfl) (by decide) ?_
  unfold startA
  repeat' (first|refine st_seq_reg rfl (by first|(simp only[go_sem,hx];rfl)|rfl) (by first|(simp only[go_sem,hx];rfl)|rfl) ?_|refine st_op ?_|refine st_det rfl (by simp (disch:=omega) only[go_sem,wr_i64,if_yes,if_no,↓reduceIte,reduceAdd,reduceMul,reduceEqDiff,Nat.reduceBEq,reduceLeDiff,hx];rfl) ?_|(refine st_drum (by first|(simp (disch:=omega) only[go_sem,hx];rfl)|rfl) rfl (c18 b _ (by omega)) (by first|(simp (disch:=omega) only[go_sem,hx];rfl)|rfl) (by assumption) (by first|(simp only[go_sem,hx];rfl)|rfl) (by intro x' n;first|(simp (disch:=omega) only[go_sem];rfl)|rfl) ?_;rintro v x' n hu' ⟨r,rfl,hr1,hr2⟩ hn)|refine st_nil ?_|refine st_ret ?_)
  simp (disch:=omega) only[AEnd,Try.results62,aresK,fin,go_sem,↓reduceIte,reduceEqDiff,reduceAdd,reduceLeDiff,if_yes,if_no,implies_true,true_and,and_true,List.reverse_cons,List.reverse_nil]
  exact ⟨fun b' _ h2=>if_neg h2,⟨_,rfl,hu'⟩,⟨_,rfl,by omega,by omega⟩⟩
theorem c62' (b:Nat × Nat) (lo hi:Int) (h1:-1000000000≤lo∧lo≤1000000000) (h2:lo≤hi∧hi - lo≤1000000000):Drum Try.prog 62 [.ptr b 0 0,.int .i64 lo,.int .i64 hi] b (fun v=>∃ r,v=.int .i64 r∧lo≤r∧r≤hi):=by
  intro h x hx hu
  refine (c62 b lo hi h1 (by omega) h x hx hu).mono ?_
  rintro v h' ⟨x',n,h1,h2,h3,r,h4,h5,h6⟩
  exact ⟨x',n,h1,h2,h3,r,h4,h5,by omega⟩
theorem c39 (b:Nat × Nat) (es:List Int) (h1:es ≠ []) (h2:(es.length:Int)≤1000):Drum Try.prog 39 [.ptr b 0 0,.lst 1 (es.map iv)] b (fun v=>∃ r,v=.int .i64 r∧r ∈ es):=by
  have h3:0 < es.length:=List.length_pos_iff.2 h1
  refine Drum.of Try.call39 fun h x hx hu hold=>?_
  refine ACalls.of tab mixed Try.call39 Try.func39 rfl (fi:=⟨15,[],[],none,[]⟩) rfl rfl (Nat.le_of_ble_eq_true rfl) (by decide) ?_
  unfold startA
  repeat' (first|refine st_seq_reg rfl (by first|(simp only[go_sem,hx];rfl)|rfl) (by first|(simp only[go_sem,hx];rfl)|rfl) ?_|refine st_op ?_|refine st_det rfl (by simp (disch:=omega) only[go_sem,wr_i64,if_yes,if_no,↓reduceIte,reduceAdd,reduceMul,reduceEqDiff,Nat.reduceBEq,reduceLeDiff,hx];rfl) ?_|(refine st_drum (by first|(simp (disch:=omega) only[go_sem,hx];rfl)|rfl) rfl (c18 b _ (by omega)) (by first|(simp (disch:=omega) only[go_sem,hx];rfl)|rfl) (by assumption) (by first|(simp only[go_sem,hx];rfl)|rfl) (by intro x' n;first|(simp (disch:=omega) only[go_sem];rfl)|rfl) ?_;rintro v x' n hu' ⟨r,rfl,hr1,hr2⟩ hn)|(refine st_condS rfl ?_ ?_ <;> intro hg <;> (try simp only[decide_eq_true_eq,decide_eq_false_iff_not,Bool.not_eq_true',Bool.not_eq_false'] at hg))|refine st_nil ?_|refine st_tN ?_|refine st_seq ?_|refine st_skip ?_|refine st_ret ?_|refine st_tR ?_)
  · omega
  · simp (disch:=omega) only[AEnd,Try.results39,aresK,fin,go_sem,↓reduceIte,reduceEqDiff,reduceAdd,reduceLeDiff,if_yes,if_no,implies_true,true_and,and_true,List.reverse_cons,List.reverse_nil]
    exact ⟨fun b' _ h2=>if_neg h2,⟨_,rfl,hu'⟩,⟨_,rfl,elt_mem (by omega)⟩⟩
theorem c39b (b:Nat × Nat) (x y:Int):Drum Try.prog 39 [.ptr b 0 0,.lst 1 [[.int .i64 x],[.int .i64 y]]] b (fun v=>∃ r,v=.int .i64 r∧(r=x ∨ r=y)):=by
  have h:=c39 b [x,y] (by simp) (by simp)
  simpa [iv] using h
theorem c39c (b:Nat × Nat) (x y z:Int):Drum Try.prog 39 [.ptr b 0 0,.lst 1 [[.int .i64 x],[.int .i64 y],[.int .i64 z]]] b (fun v=>∃ r,v=.int .i64 r∧(r=x ∨ r=y ∨ r=z)):=by
  have h:=c39 b [x,y,z] (by simp) (by simp)
  simpa [iv] using h
theorem c16 (l:List Int) (hl:(l.length:Int)≤9223372036854775807) (h:AH):ACalls Try.prog 16 [.lst 1 (l.map iv)] h (fun v h'=>∃ b x n,v=.ptr b 0 0∧h.clk≤b.1∧b.1 < n∧isU64 x∧h'=(h.tick n).put b (dr x)):=by
  refine ACalls.of tab mixed Try.call16 Try.func16 rfl (fi:=⟨29,[],[],none,[(5,[0,0,2,6,14,0,0,96,224,480,1022,2047,4095,8191],[(0,false),(1,false),(2,false),(3,false),(4,false),(5,false),(6,false),(7,false),(8,true),(9,false),(10,false),(11,false),(12,false),(13,false)])]⟩) rfl rfl (Nat.le_of_ble_eq_true rfl) (by decide) ?_
  unfold startA
  repeat' (first|refine st_seq_reg rfl (by first|(simp only[go_sem];rfl)|rfl) (by first|(simp only[go_sem];rfl)|rfl) ?_|refine st_op ?_|refine st_det rfl (by simp (disch:=omega) only[go_sem,wr_i64,if_yes,if_no,↓reduceIte,reduceAdd,reduceMul,reduceEqDiff,Nat.reduceBEq,reduceLeDiff];rfl) ?_|refine st_heap rfl (by simp (disch:=omega) only[go_sem,wr_i64,if_yes,if_no,↓reduceIte,reduceAdd,reduceMul,reduceEqDiff,Nat.reduceBEq,reduceLeDiff];rfl) ?_|refine st_nil ?_|refine st_seq ?_|refine st_block ?_)
  refine st_loopH (α:=Nat × Int) tab mixed [] [] (by repeat (first|exact trivial|refine ⟨rfl,?_⟩)) [] [] (by repeat (first|exact trivial|refine ⟨rfl,?_⟩)) (fun a=>[(4,.int .i64 a.1)]) [(0,_),(2,_),(3,_)] (fun _=>[]) [] (fun a=>(h.tick (h.clk+1+1+1)).put (h.clk+1,6) (dr a.2)) (fun a=>a.1≤l.length∧isU64 a.2) (fun a=>l.length - a.1) (by decide) (0,2685821657736338717) ⟨by omega,by unfold isU64;omega⟩ (by (try simp only[go_sem]);repeat' (first|exact trivial|refine And.intro ?_ ?_|rfl|(simp (disch:=omega) only[go_sem,if_yes,if_no,↓reduceIte,reduceAdd,reduceMul,reduceEqDiff,Nat.reduceBEq,reduceLeDiff];rfl)|(simp (disch:=omega) only[go_sem,if_yes,if_no,↓reduceIte,reduceAdd,reduceMul,reduceEqDiff,Nat.reduceBEq,reduceLeDiff]))) (by (try simp only[go_sem]);repeat' (first|exact trivial|refine And.intro ?_ ?_|rfl|(simp (disch:=omega) only[go_sem,if_yes,if_no,↓reduceIte,reduceAdd,reduceMul,reduceEqDiff,Nat.reduceBEq,reduceLeDiff];rfl)|(simp (disch:=omega) only[go_sem,if_yes,if_no,↓reduceIte,reduceAdd,reduceMul,reduceEqDiff,Nat.reduceBEq,reduceLeDiff]))) (HOld.refl _) ?_
  rintro ⟨i,x⟩ c ⟨hi',hx⟩ hc
  simp only[go_sem] at hc
  simp only[go_sem,dr]
  repeat' (first|refine st_seq_reg rfl (by first|(simp only[go_sem];rfl)|rfl) (by first|(simp only[go_sem];rfl)|rfl) ?_|refine st_reg rfl (by first|(simp only[go_sem];rfl)|rfl) (by first|(simp only[go_sem];rfl)|rfl) ?_|refine st_seq_draw rfl (by first|(simp only[go_sem];rfl)|rfl) (by first|(simp only[go_sem];rfl)|rfl) ?_|refine st_op ?_|(refine st_u64 rfl (by simp (disch:=omega) only[go_sem,wr_i64,if_yes,if_no,↓reduceIte,reduceAdd,reduceMul,reduceEqDiff,Nat.reduceBEq,reduceLeDiff];rfl) (by first|exact wr_u64 _|exact xor_u64 _ _) ?_;intro y hy)|refine st_det rfl (by simp (disch:=omega) only[go_sem,wr_i64,if_yes,if_no,↓reduceIte,reduceAdd,reduceMul,reduceEqDiff,Nat.reduceBEq,reduceLeDiff];rfl) ?_|refine st_dop rfl ?_|refine st_store (by simp (disch:=omega) only[go_sem,wr_i64,if_yes,if_no,↓reduceIte,reduceAdd,reduceMul,reduceEqDiff,Nat.reduceBEq,reduceLeDiff];rfl) ?_|(refine st_drum (by first|(simp (disch:=omega) only[go_sem];rfl)|rfl) rfl (c61 _) (by first|(simp (disch:=omega) only[go_sem];rfl)|rfl) (by assumption) (by first|(simp only[go_sem];rfl)|rfl) (by intro x' n;first|(simp (disch:=omega) only[go_sem];rfl)|rfl) ?_;rintro v x' n hu' ⟨w,hw,rfl⟩ hn)|(refine st_condS rfl ?_ ?_ <;> intro hg <;> (try simp only[decide_eq_true_eq,decide_eq_false_iff_not,Bool.not_eq_true',Bool.not_eq_false'] at hg))|refine st_nil ?_|refine st_dnil ?_|refine st_tN ?_|refine st_seq ?_|refine st_block ?_|refine st_skip ?_|refine st_exit ?_|refine st_ret ?_|refine st_tE ?_|refine st_bN ?_|refine st_bH ?_)
  · refine ⟨(i+1,x'),⟨by omega,by assumption⟩,by omega,(by repeat' (first|exact trivial|refine And.intro ?_ ?_|rfl|(simp (disch:=omega) only[go_sem,if_yes,if_no,↓reduceIte,reduceAdd,reduceMul,reduceEqDiff,Nat.reduceBEq,reduceLeDiff];rfl)|(simp (disch:=omega) only[go_sem,if_yes,if_no,↓reduceIte,reduceAdd,reduceMul,reduceEqDiff,Nat.reduceBEq,reduceLeDiff]))),(by repeat' (first|exact trivial|refine And.intro ?_ ?_|rfl|(simp (disch:=omega) only[go_sem,if_yes,if_no,↓reduceIte,reduceAdd,reduceMul,reduceEqDiff,Nat.reduceBEq,reduceLeDiff];rfl)|(simp (disch:=omega) only[go_sem,if_yes,if_no,↓reduceIte,reduceAdd,reduceMul,reduceEqDiff,Nat.reduceBEq,reduceLeDiff]))),rfl,HOld.put _ _ _ (by omega)⟩
  · simp (disch:=omega) only[AEnd,Try.results16,aresK,fin,go_sem,↓reduceIte,reduceEqDiff,reduceAdd,reduceLeDiff,if_yes,if_no,implies_true,true_and,and_true,List.reverse_cons,List.reverse_nil]
    exact ⟨_,x,_,rfl,by omega,by omega,hx,rfl⟩
theorem c28 (l:List Int) (hl:l.length < 1000000):Pure Try.prog 28 [.lst 1 (l.map iv)] (fun v=>v=.lst 1 (l.map iv)):=by
  refine Pure.give Try.call28 fun h hall=>?_
  refine ACalls.of tab mixed Try.call28 Try.func28 rfl (fi:=⟨6,[],[],none,[]⟩) rfl rfl (Nat.le_of_ble_eq_true rfl) (by decide) ?_
  unfold startA
  repeat' (first|refine st_seq_reg rfl (by first|(simp only[go_sem,length_map,big,Nat.zero_add];rfl)|rfl) (by first|(simp only[go_sem,length_map,big,Nat.zero_add];rfl)|rfl) ?_|refine st_op ?_|refine st_det rfl (by simp (disch:=omega) only[go_sem,wr_i64,if_yes,if_no,↓reduceIte,reduceAdd,reduceMul,reduceEqDiff,Nat.reduceBEq,reduceLeDiff,length_map,big,Nat.zero_add];rfl) ?_|refine st_heap rfl (by simp (disch:=omega) only[go_sem,wr_i64,if_yes,if_no,↓reduceIte,reduceAdd,reduceMul,reduceEqDiff,Nat.reduceBEq,reduceLeDiff,length_map,big,Nat.zero_add];rfl) ?_|refine st_append (by simp (disch:=omega) only[go_sem,wr_i64,if_yes,if_no,↓reduceIte,reduceAdd,reduceMul,reduceEqDiff,Nat.reduceBEq,reduceLeDiff,length_map,big,Nat.zero_add];rfl) ?_|refine st_nil ?_|refine st_ret ?_)
  simp (disch:=omega) only[AEnd,Try.results28,aresK,fin,go_sem,↓reduceIte,reduceEqDiff,reduceAdd,reduceLeDiff,if_yes,if_no,implies_true,true_and,and_true,List.reverse_cons,List.reverse_nil]
  refine ⟨fun b' hb'=>by rw [if_neg (fun e=>by rw [e] at hb';dsimp only at hb';omega),if_neg (fun e=>by rw [e] at hb';dsimp only at hb';omega)],.inr ⟨(h.clk+1,5),_,by show h.clk≤h.clk+1;omega,if_pos rfl,?_⟩⟩
  simp only[frz,frzs]
  rw [if_pos ⟨trivial,by simp⟩,List.drop_zero,List.take_of_length_le (by simp)]
theorem c28h (l:List Int) (hl:l.length < 1000000) (h:AH):ACalls Try.prog 28 [.lst 1 (l.map iv)] h (fun v h'=>∃ bb n,v=.slc bb 1 0 l.length∧h.clk≤bb.1∧bb.1 < n∧h'=(h.tick n).put bb (some ⟨1,l.map iv⟩)):=by
  refine ACalls.sub (Q:=fun v h'=>v=.slc (h.clk+1,5) 1 0 l.length∧h'=((h.tick (h.clk+1+1)).put (h.clk+1,3) none).put (h.clk+1,5) (some ⟨1,l.map iv⟩)) ?_ ?_
  · refine ACalls.of tab mixed Try.call28 Try.func28 rfl (fi:=⟨6,[],[],none,[]⟩) rfl rfl (Nat.le_of_ble_eq_true rfl) (by decide) ?_
    unfold startA
    repeat' (first|refine st_seq_reg rfl (by first|(simp only[go_sem,length_map,big,Nat.zero_add];rfl)|rfl) (by first|(simp only[go_sem,length_map,big,Nat.zero_add];rfl)|rfl) ?_|refine st_op ?_|refine st_det rfl (by simp (disch:=omega) only[go_sem,wr_i64,if_yes,if_no,↓reduceIte,reduceAdd,reduceMul,reduceEqDiff,Nat.reduceBEq,reduceLeDiff,length_map,big,Nat.zero_add];rfl) ?_|refine st_heap rfl (by simp (disch:=omega) only[go_sem,wr_i64,if_yes,if_no,↓reduceIte,reduceAdd,reduceMul,reduceEqDiff,Nat.reduceBEq,reduceLeDiff,length_map,big,Nat.zero_add];rfl) ?_|refine st_append (by simp (disch:=omega) only[go_sem,wr_i64,if_yes,if_no,↓reduceIte,reduceAdd,reduceMul,reduceEqDiff,Nat.reduceBEq,reduceLeDiff,length_map,big,Nat.zero_add];rfl) ?_|refine st_nil ?_|refine st_ret ?_)
    simp (disch:=omega) only[AEnd,Try.results28,aresK,fin,go_sem,↓reduceIte,reduceEqDiff,reduceAdd,reduceLeDiff,if_yes,if_no,implies_true,true_and,and_true,List.reverse_cons,List.reverse_nil]
  · rintro v h' hall hclk ⟨rfl,rfl⟩
    refine ⟨(h.tick (h.clk+1+1)).put (h.clk+1,5) (some ⟨1,l.map iv⟩),fun b k hbk=>?_,fun _ _ e=>e,Nat.le_refl _,_,_,rfl,by show h.clk≤h.clk+1;omega,by show h.clk+1 < h.clk+1+1;omega,rfl⟩
    simp only[AH.put,AH.tick,upd_apply] at hbk ⊢
    split at hbk
    · rename_i e;rw [if_pos e];exact hbk
    · rename_i e
      rw [if_neg e]
      have:=hall b k hbk
      rw [if_neg (fun e'=>by rw [e'] at this;exact absurd this (by show ¬ h.clk+1 < h.clk;omega))]
      exact hbk
end Go.Proofs.Ythjbfdfhblloiaa
