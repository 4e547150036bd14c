/- Contracts of functions that the claim reaches: what each call gives, told in our own logic. Conditions: those of each theorem. -/
import Derived.Test.YtaijkalhkgjakaaGreatDoorF3b
open List (length_map)
set_option linter.all false
set_option linter.unusedSimpArgs false
set_option linter.unusedVariables false
namespace Go.Proofs.YtaijkalhkgjakaaGreatDoor
open Go.Av
attribute [local irreducible] thenA blockA awp awpOps awpD awp1
attribute [local go_sem_proc] Nat.reduceAdd Nat.reduceMul Nat.reduceEqDiff Nat.reduceBEq Nat.reduceLeDiff
attribute [local go_sem_proc ↓] reduceIte
attribute [local go_sem] if_yes if_no
set_option maxHeartbeats 8000000
set_option maxRecDepth 20000
def wl (arm:Int→Int) (s:Int) (l:List Ld):Int:=s+(l.map fun x=>x.lo * arm x.at_).sum
def wh (arm:Int→Int) (s:Int) (l:List Ld):Int:=s+(l.map fun x=>x.hi * arm x.at_).sum
def LdOk (x:Ld):Prop:=0≤x.at_∧x.at_≤3000∧0≤x.lo∧x.lo≤x.hi∧x.hi≤100000
structure FlOk (f:Fl):Prop where
 len:1≤f.len∧f.len≤3000
 wid:1≤f.wid∧f.wid≤1000
 axles:0≤f.front∧f.front < f.rear∧f.rear≤f.len
 turn:0≤f.turn∧f.turn≤20000
 kilos:0≤f.kilos∧f.kilos≤100000
 mid:0≤f.mid∧f.mid≤f.len
 high:0≤f.high∧f.high≤2000
 loads:f.loads.length≤30∧∀ x ∈ f.loads,LdOk x
theorem ld_mem {l:List Ld} {i:Nat} (h:i < l.length):ld l i ∈ l:=by
 unfold ld;rw [List.getD_eq_getElem?_getD,List.getElem?_eq_getElem h];exact List.getElem_mem h
theorem hu_mem {l:List Hu} {i:Nat} (h:i < l.length):hu l i ∈ l:=by
 unfold hu;rw [List.getD_eq_getElem?_getD,List.getElem?_eq_getElem h];exact List.getElem_mem h
theorem mul_bd {k x K A:Int} (hk:0≤k∧k≤K) (hx:-A≤x∧x≤A):-(K * A)≤k * x∧k * x≤K * A:=by
 have hA:0≤A:=by omega
 have h1:=Int.mul_le_mul_of_nonneg_left hx.2 hk.1
 have h2:=Int.mul_le_mul_of_nonneg_left hx.1 hk.1
 have h3:=Int.mul_le_mul_of_nonneg_right hk.2 hA
 rw [Int.mul_neg] at h2
 omega
theorem c172 (a:Int):Pure Tryz.prog 172 [.int .i64 a] (fun v=>v=.int .i64 1):=by
 intro h
 refine ACalls.forget (ACalls.of tab mixed Tryz.call172 Tryz.func172 rfl (fi:=⟨3,[],[],none,[]⟩) rfl rfl (Nat.le_of_ble_eq_true rfl) (by decide) ?_)
 unfold startA
 repeat' (first|refine st_seq_reg rfl (by first|(simp only[go_sem];rfl)|rfl) (by first|(simp only[go_sem];rfl)|rfl) ?_|refine st_op ?_|refine st_det rfl (by simp (disch:=omega) only[go_sem,wr_i64];rfl) ?_|refine st_nil ?_|refine st_ret ?_)
 simp (disch:=omega) only[AEnd,Tryz.results172,aresK,fin,go_sem,implies_true,true_and,and_true,List.reverse_cons,List.reverse_nil]
theorem c146 (f:Fl) (p m a:Int) (ha:0≤a∧a≤3000) (hf:0≤f.rear∧f.rear≤3000):Pure Tryz.prog 146 [.int .i64 a,.iptr (Tk.av f p m).cells 0] (fun v=>v=.int .i64 (f.rear - a)):=by
 intro h
 refine ACalls.forget (ACalls.of tab mixed Tryz.call146 Tryz.func146 rfl (fi:=⟨9,[],[],none,[]⟩) rfl rfl (Nat.le_of_ble_eq_true rfl) (by decide) ?_)
 unfold startA
 simp only[go_sem]
 repeat' (first|refine st_seq_reg rfl (by first|(simp only[go_sem];rfl)|rfl) (by first|(simp only[go_sem];rfl)|rfl) ?_|refine st_op ?_|refine st_det rfl (by simp (disch:=omega) only[go_sem,wr_i64];rfl) ?_|refine st_nil ?_|refine st_ret ?_)
 simp (disch:=omega) only[AEnd,Tryz.results146,aresK,fin,go_sem,implies_true,true_and,and_true,List.reverse_cons,List.reverse_nil]
theorem c147 (f:Fl) (p m a:Int) (ha:0≤a∧a≤3000) (hf:0≤f.front∧f.front≤3000):Pure Tryz.prog 147 [.int .i64 a,.iptr (Tk.av f p m).cells 0] (fun v=>v=.int .i64 (a - f.front)):=by
 intro h
 refine ACalls.forget (ACalls.of tab mixed Tryz.call147 Tryz.func147 rfl (fi:=⟨9,[],[],none,[]⟩) rfl rfl (Nat.le_of_ble_eq_true rfl) (by decide) ?_)
 unfold startA
 simp only[go_sem]
 repeat' (first|refine st_seq_reg rfl (by first|(simp only[go_sem];rfl)|rfl) (by first|(simp only[go_sem];rfl)|rfl) ?_|refine st_op ?_|refine st_det rfl (by simp (disch:=omega) only[go_sem,wr_i64];rfl) ?_|refine st_nil ?_|refine st_ret ?_)
 simp (disch:=omega) only[AEnd,Tryz.results147,aresK,fin,go_sem,implies_true,true_and,and_true,List.reverse_cons,List.reverse_nil]
theorem c152 (f:Fl) (p m:Int) (hf:FlOk f):Pure Tryz.prog 152 [Tk.av f p m] (fun v=>v=.int .i64 (f.rear - f.front)):=by
 have:=hf.len;have:=hf.axles
 intro h
 refine ACalls.forget (ACalls.of tab mixed Tryz.call152 Tryz.func152 rfl (fi:=⟨10,[],[1],none,[]⟩) rfl rfl (Nat.le_of_ble_eq_true rfl) (by decide) ?_)
 unfold startA
 simp only[go_sem]
 repeat' (first|refine st_seq_reg rfl (by first|(simp only[go_sem];rfl)|rfl) (by first|(simp only[go_sem];rfl)|rfl) ?_|refine st_op ?_|refine st_det rfl (by simp (disch:=omega) only[go_sem,wr_i64];rfl) ?_|refine st_nil ?_|refine st_ret ?_)
 simp (disch:=omega) only[AEnd,Tryz.results152,aresK,fin,go_sem,implies_true,true_and,and_true,List.reverse_cons,List.reverse_nil]
theorem c121 (a b:Bool):Pure Tryz.prog 121 [.bool a,.bool b] (fun v=>v=.int .i64 (if a then 1 else if b then 3 else 2)):=by
 intro h
 refine ACalls.forget (ACalls.of tab mixed Tryz.call121 Tryz.func121 rfl (fi:=⟨9,[],[],none,[]⟩) rfl rfl (Nat.le_of_ble_eq_true rfl) (by decide) ?_)
 unfold startA
 repeat' (first|refine st_seq_reg rfl (by first|(simp only[go_sem];rfl)|rfl) (by first|(simp only[go_sem];rfl)|rfl) ?_|refine st_op ?_|refine st_det rfl (by simp (disch:=omega) only[go_sem,wr_i64];rfl) ?_|(refine st_condS rfl ?_ ?_ <;> intro hg <;> (try simp only[dcT,dcF,bnT,bnF] at hg))|refine st_nil ?_|refine st_tN ?_|refine st_seq ?_|refine st_block ?_|refine st_skip ?_|refine st_ret ?_|refine st_tR ?_|refine st_bN ?_|refine st_bR ?_)
 all_goals
  simp (disch:=omega) only[AEnd,Tryz.results121,aresK,fin,go_sem,implies_true,true_and,and_true,List.reverse_cons,List.reverse_nil]
  all_goals simp [*]
end Go.Proofs.YtaijkalhkgjakaaGreatDoor

namespace Go.Proofs.YtaijkalhkgjakaaGreatDoor
open Go.Av
attribute [local irreducible] thenA blockA awp awpOps awpD awp1
attribute [local go_sem_proc] Nat.reduceAdd Nat.reduceMul Nat.reduceEqDiff Nat.reduceBEq Nat.reduceLeDiff
attribute [local go_sem_proc ↓] reduceIte
attribute [local go_sem] if_yes if_no
set_option maxHeartbeats 8000000
set_option maxRecDepth 20000
theorem take_ld {α:Type} {l:List α} {i:Nat} (d:α) (h:i < l.length) (f:α→Int):((l.take (i+1)).map f).sum=((l.take i).map f).sum+f (l.getD i d):=by
 rw [List.take_succ_eq_append_getElem h,List.map_append,List.sum_append,List.getD_eq_getElem?_getD,List.getElem?_eq_getElem h];simp
@[go_sem] theorem wl_nil (arm:Int→Int) (s:Int):wl arm s []=s:=by simp [wl]
@[go_sem] theorem wh_nil (arm:Int→Int) (s:Int):wh arm s []=s:=by simp [wh]
theorem wl_step {arm:Int→Int} {s:Int} {l:List Ld} {i:Nat} (h:i < l.length):wl arm s (l.take (i+1))=wl arm s (l.take i)+(ld l i).lo * arm (ld l i).at_:=by
 unfold wl;rw [take_ld ⟨0,0,0,0,0,0,0⟩ h];unfold ld;omega
theorem wh_step {arm:Int→Int} {s:Int} {l:List Ld} {i:Nat} (h:i < l.length):wh arm s (l.take (i+1))=wh arm s (l.take i)+(ld l i).hi * arm (ld l i).at_:=by
 unfold wh;rw [take_ld ⟨0,0,0,0,0,0,0⟩ h];unfold ld;omega
theorem w_bd {arm:Int→Int} {s:Int} {l:List Ld} (hl:∀ x ∈ l,LdOk x) (hb:∀ a,0≤a→a≤3000→-3000≤arm a∧arm a≤3000):∀ i≤l.length,
  (s - 300000000 * i≤wl arm s (l.take i)∧wl arm s (l.take i)≤s+300000000 * i)∧(s - 300000000 * i≤wh arm s (l.take i)∧wh arm s (l.take i)≤s+300000000 * i):=by
 intro i
 induction i with
 | zero=>intro _;simp [wl,wh]
 | succ i ih =>
  intro hi
  have h0:=ih (by omega)
  rw [wl_step (by omega),wh_step (by omega)]
  have hx:=hl _ (ld_mem (l:=l) (i:=i) (by omega))
  unfold LdOk at hx
  have:=hb _ hx.1 hx.2.1
  have h1:=mul_bd (k:=(ld l i).lo) (K:=100000) (A:=3000) (by omega) this
  have h2:=mul_bd (k:=(ld l i).hi) (K:=100000) (A:=3000) (by omega) this
  omega
theorem c145 (f:Fl) (p m:Int) (g:FuncId) (cap:List AV) (arm:Int→Int) (hf:FlOk f) (hp:0≤p∧p≤3000) (hm:0≤m∧m≤100000)
  (ha:∀ a,0≤a→a≤3000→Pure Tryz.prog g (([] ++ [.int .i64 a]) ++ cap) (fun v=>v=.int .i64 (arm a))) (hb:∀ a,0≤a→a≤3000→-3000≤arm a∧arm a≤3000) :
  Pure Tryz.prog 145 [Tk.av f p m,.fn (.func g) [] cap] (fun v=>v=.agg [.int .i64 (wl arm (f.kilos * arm f.mid+m * arm p) f.loads),.int .i64 (wh arm (f.kilos * arm f.mid+m * arm p) f.loads)]):=by
 have h1:=hf.len;have h2:=hf.mid;have h3:=hf.kilos;have h4:=hf.loads.1
 have m1:=mul_bd h3 (hb f.mid (by omega) (by omega))
 have m2:=mul_bd hm (hb p (by omega) (by omega))
 have wb:=fun i hi=>w_bd (s:=f.kilos * arm f.mid+m * arm p) hf.loads.2 hb i hi
 have e1:∀ i,i < f.loads.length→_:=fun i h=>wl_step (arm:=arm) (s:=f.kilos * arm f.mid+m * arm p) h
 have e2:∀ i,i < f.loads.length→_:=fun i h=>wh_step (arm:=arm) (s:=f.kilos * arm f.mid+m * arm p) h
 intro h
 refine ACalls.forget (ACalls.of tab mixed Tryz.call145 Tryz.func145 rfl (fi:=⟨65,[4,6,8],[2,25,48,60],none,[(1,[0,1,3,0,0,16,48,120,255,0,512,0,0,4096,14584,32504,65535,131071,262143],[(0,false),(1,false),(2,true),(3,false),(4,false),(5,false),(6,true),(9,false),(10,true),(11,false),(12,false),(13,true),(7,false),(8,false),(14,false),(15,false),(16,false),(17,false),(18,false)]),(6,[0,1,0,4,12,0,0,64,224,508,1023,2047,0,4096,0,16384,49152,0,0,262144,921599,2084863,4194303,8388607,16777215,33554431],[(0,false),(1,true),(2,false),(3,false),(4,true),(5,false),(6,false),(7,true),(12,false),(13,true),(14,false),(15,false),(16,true),(17,false),(18,false),(19,true),(8,false),(9,false),(10,false),(11,false),(20,false),(21,false),(22,false),(23,false),(24,false),(25,false)])]⟩) rfl rfl (Nat.le_of_ble_eq_true rfl) (by decide) ?_)
 unfold startA
 simp only[go_sem]
 repeat' (first|refine st_seq_reg rfl (by first|(simp only[go_sem];rfl)|rfl) (by first|(simp only[go_sem];rfl)|rfl) ?_|refine st_seq_draw rfl (by first|(simp only[go_sem];rfl)|rfl) (by first|(simp only[go_sem];rfl)|rfl) ?_|refine st_op ?_|refine st_det rfl (by simp (disch:=omega) only[go_sem,wr_i64];rfl) ?_|refine st_dop rfl ?_|refine st_loc rfl (by simp (disch:=omega) only[go_sem,wr_i64];rfl) ?_|refine st_store (by simp (disch:=omega) only[go_sem,wr_i64];rfl) ?_|(refine st_pureV (by first|(simp only[go_sem];rfl)|rfl) (by first|(simp (disch:=omega) only[go_sem];rfl)|rfl) rfl (ha _ (by omega) (by omega)) (by first|(simp only[go_sem];rfl)|rfl) (by intro n;first|(simp (disch:=omega) only[go_sem];rfl)|rfl) ?_;intro v n hv hn;subst hv)|(refine st_pureE (by first|(simp (disch:=omega) only[go_sem];rfl)|rfl) rfl (sum2 _ _ (by omega) (by omega)) (by first|(simp only[go_sem];rfl)|rfl) (by intro n;first|(simp (disch:=omega) only[go_sem];rfl)|rfl) ?_;intro n hn)|refine st_nil ?_|refine st_dnil ?_|refine st_seq ?_|refine st_block ?_)
 refine st_loopC (α:=Nat) tab mixed [6] [_] (by repeat (first|exact trivial|refine ⟨rfl,?_⟩)) [4] [_] (by repeat (first|exact trivial|refine ⟨rfl,?_⟩)) (fun i=>[(34,.int .i64 i)]) [(1,_),(2,_),(4,_),(6,_),(32,_),(33,_)] (fun i=>[[.int .i64 (wl arm (f.kilos * arm f.mid+m * arm p) (f.loads.take i)),.int .i64 (wh arm (f.kilos * arm f.mid+m * arm p) (f.loads.take i))]]) [_] (fun i=>i≤f.loads.length) (fun i=>f.loads.length - i) (by decide) 0 (by omega) (by (try simp only[go_sem]);repeat' (first|exact trivial|refine And.intro ?_ ?_|rfl|(simp (disch:=omega) only[go_sem,if_yes,if_no,if_no];rfl)|(simp (disch:=omega) only[go_sem,if_yes,if_no,if_no]))) (by (try simp only[go_sem]);repeat' (first|exact trivial|refine And.intro ?_ ?_|rfl|(simp (disch:=omega) only[go_sem,if_yes,if_no,if_no];rfl)|(simp (disch:=omega) only[go_sem,if_yes,if_no,if_no]))) (by first|(simp only[go_sem];rfl)|rfl) (by intro n;simp only[go_sem];rfl) ?_
 rintro i c hi' hc
 simp only[go_sem]
 have w1:=wb i hi'
 have hx:i < f.loads.length→LdOk (ld f.loads i):=fun h=>hf.loads.2 _ (ld_mem h)
 have w2:i < f.loads.length→_:=fun h=>mul_bd (k:=(ld f.loads i).lo) (K:=100000) ⟨(hx h).2.2.1,by have:=hx h;unfold LdOk at this;omega⟩ (hb (ld f.loads i).at_ (hx h).1 (hx h).2.1)
 have w3:i < f.loads.length→_:=fun h=>mul_bd (k:=(ld f.loads i).hi) (K:=100000) ⟨(by have:=hx h;unfold LdOk at this;omega),(hx h).2.2.2.2⟩ (hb (ld f.loads i).at_ (hx h).1 (hx h).2.1)
 have w4:i < f.loads.length→0≤(ld f.loads i).at_∧(ld f.loads i).at_≤3000:=fun h=>⟨(hx h).1,(hx h).2.1⟩
 repeat' (first|refine st_seq_reg rfl (by first|(simp only[go_sem];rfl)|rfl) (by first|(simp only[go_sem];rfl)|rfl) ?_|refine st_reg rfl (by first|(simp only[go_sem];rfl)|rfl) (by first|(simp only[go_sem];rfl)|rfl) ?_|refine st_draw rfl (by first|(simp only[go_sem];rfl)|rfl) (by first|(simp only[go_sem];rfl)|rfl) ?_|refine st_op ?_|refine st_det rfl (by simp (disch:=omega) only[go_sem,wr_i64];rfl) ?_|refine st_dop rfl ?_|refine st_loc rfl (by simp (disch:=omega) only[go_sem,wr_i64];rfl) ?_|refine st_store (by simp (disch:=omega) only[go_sem,wr_i64];rfl) ?_|(refine st_pureV (by first|(simp only[go_sem];rfl)|rfl) (by first|(simp (disch:=omega) only[go_sem];rfl)|rfl) rfl (ha _ (by omega) (by omega)) (by first|(simp only[go_sem];rfl)|rfl) (by intro n;first|(simp (disch:=omega) only[go_sem];rfl)|rfl) ?_;intro v n hv hn;subst hv)|(refine st_pureE (by first|(simp (disch:=omega) only[go_sem];rfl)|rfl) rfl (sum2 _ _ (by omega) (by omega)) (by first|(simp only[go_sem];rfl)|rfl) (by intro n;first|(simp (disch:=omega) only[go_sem];rfl)|rfl) ?_;intro n hn)|(refine st_condS rfl ?_ ?_ <;> intro hg <;> (try simp only[dcT,dcF,bnT,bnF] at hg))|refine st_nil ?_|refine st_dnil ?_|refine st_tN ?_|refine st_seq ?_|refine st_block ?_|refine st_skip ?_|refine st_exit ?_|refine st_ret ?_|refine st_tE ?_|refine st_bN ?_|refine st_bH ?_)
 ·refine ⟨i+1,(by omega),by omega,(by (try (rw [e1 i (by omega),e2 i (by omega)]));repeat' (first|exact trivial|refine And.intro ?_ ?_|rfl|(simp (disch:=omega) only[go_sem,if_yes,if_no,if_no];rfl)|(simp (disch:=omega) only[go_sem,if_yes,if_no,if_no]))),(by (try (rw [e1 i (by omega),e2 i (by omega)]));repeat' (first|exact trivial|refine And.intro ?_ ?_|rfl|(simp (disch:=omega) only[go_sem,if_yes,if_no,if_no];rfl)|(simp (disch:=omega) only[go_sem,if_yes,if_no,if_no]))),rfl,(by first|exact HOld.of _ (by omega)|exact HOld.put _ _ _ (by omega))⟩
 ·rw [List.take_of_length_le (by omega)]
  simp (disch:=omega) only[AEnd,Tryz.results145,aresK,fin,go_sem,implies_true,true_and,and_true,List.reverse_cons,List.reverse_nil]
end Go.Proofs.YtaijkalhkgjakaaGreatDoor

namespace Go.Proofs.YtaijkalhkgjakaaGreatDoor
open Go.Av Go.Txt Go.Lib
attribute [local irreducible] thenA blockA awp awpOps awpD awp1
attribute [local go_sem_proc] Nat.reduceAdd Nat.reduceMul Nat.reduceEqDiff Nat.reduceBEq Nat.reduceLeDiff
attribute [local go_sem_proc ↓] reduceIte
attribute [local go_sem] if_yes if_no
set_option maxHeartbeats 8000000
set_option maxRecDepth 20000
def numsT (l:List Int):List UInt8:=l.flatMap fun n=>32 :: itoa n
def rowT (w:List UInt8) (l:List Int):List UInt8:=w ++ numsT l ++ [10]
def NumOk (l:List Int):Prop:=l.length≤1000000∧∀ x ∈ l,-9223372036854775808≤x∧x≤9223372036854775807
theorem numsT_len {l:List Int} (h:∀ x ∈ l,-9223372036854775808≤x∧x≤9223372036854775807):(numsT l).length≤22 * l.length:=by
 induction l with
 | nil=>exact Nat.le_refl _
 | cons x l ih =>
  have h1:=h x (by simp)
  have h2:=itoa_length_le x h1.1 h1.2
  have h3:=ih (fun y hy=>h y (by simp [hy]))
  unfold numsT at h3 ⊢
  rw [List.flatMap_cons,List.length_append,List.length_cons,List.length_cons]
  omega
theorem numsT_take {l:List Int} {i:Nat} (h:i < l.length):numsT (l.take (i+1))=numsT (l.take i) ++ (32 :: itoa (l.getD i 0)):=by
 unfold numsT
 rw [List.take_succ,List.flatMap_append,List.getElem?_eq_getElem h,List.getD_eq_getElem?_getD,List.getElem?_eq_getElem h]
 simp
theorem iv_getD {l:List Int} {i:Nat} (h:i < l.length):(l.map iv).getD i []=[.int .i64 (l.getD i 0)]:=by
 rw [List.getD_eq_getElem?_getD,List.getElem?_map,List.getElem?_eq_getElem h,List.getD_eq_getElem?_getD,List.getElem?_eq_getElem h];rfl
theorem int_mem {l:List Int} {i:Nat} (h:i < l.length):l.getD i 0 ∈ l:=by
 rw [List.getD_eq_getElem?_getD,List.getElem?_eq_getElem h];exact List.getElem_mem h
theorem c77 (word:List UInt8) (l:List Int) (lb:Nat) (bs:List UInt8) (h0 h:AH) (hgl:h.gl=gT) (hB:BdZ h0 h lb bs) (hn:NumOk l) (hb:bs.length≤1000000000) (hw:word.length≤1000) :
  ACalls Tryz.prog 77 [.str word,.lst 1 (l.map iv),.gptr lb 0] h (fun v h'=>v=.tup []∧BdZ h0 h' lb (bs ++ rowT word l)∧h'.at_=h.at_∧h.clk≤h'.clk∧h'.gl=h.gl):=by
 obtain ⟨hn1,hn2⟩:=hn
 have hB0:BdZ h0 (h.tick (h.clk+1)) lb bs:=hB
 have hlen:∀ i,(numsT (l.take i)).length≤22000000:=fun i=>by
  have:=numsT_len (l:=l.take i) (fun x hx=>hn2 x (List.mem_of_mem_take hx))
  rw [List.length_take] at this
  omega
 refine ACalls.ofS tab Tryz.call77 Tryz.func77 rfl (fi:=⟨21,[],[],none,[]⟩) rfl rfl (Nat.le_of_ble_eq_true rfl) ?_
 unfold startA
 try simp only[go_sem]
 refine asem_awp (fi:=⟨21,[],[],none,[]⟩) tab mixed (by decide) ?_
 repeat' (first|refine st_seq_reg rfl (by first|(simp only[go_sem];rfl)|rfl) (by first|(simp only[go_sem];rfl)|rfl) ?_|refine st_op ?_|refine st_det rfl (by simp (disch:=omega) only[go_sem,wr_i64];rfl) ?_|(refine st_callf rfl rfl (c78 hB0 (s:=word) (by omega)) ?_;rintro v' h1 ⟨rfl,hB1,ha1,hk1,hg1⟩)|refine st_nil ?_|refine st_seq ?_|refine st_block ?_)
 have hgl1:h1.gl=gT:=hg1.trans hgl
 repeat' (first|refine st_seq_reg rfl (by first|(simp only[go_sem,length_map];rfl)|rfl) (by first|(simp only[go_sem,length_map];rfl)|rfl) ?_)
 refine st_loopH (α:=Nat × AH) tab mixed [] [] (by repeat (first|exact trivial|refine ⟨rfl,?_⟩)) [] [] (by repeat (first|exact trivial|refine ⟨rfl,?_⟩)) (fun a=>[(11,.int .i64 (a.1:Nat))]) [(0,_),(1,_),(2,_),(9,_),(10,_)] (fun _=>[]) [] (fun a=>a.2) (fun a=>a.1≤l.length∧BdZ h0 a.2 lb (bs ++ word ++ numsT (l.take a.1))∧a.2.at_=h.at_∧h.clk≤a.2.clk∧a.2.gl=gT) (fun a=>l.length - a.1) (by decide) (0,_) (by exact ⟨Nat.zero_le _,by show BdZ h0 h1 lb _;simpa [numsT] using hB1,ha1,by simp only[go_sem] at hk1 ⊢;omega,hgl1⟩) (by (try simp only[go_sem]);repeat' (first|exact trivial|refine And.intro ?_ ?_|rfl|(simp (disch:=omega) only[go_sem,if_yes,if_no,if_no];rfl)|(simp (disch:=omega) only[go_sem,if_yes,if_no,if_no]))) (by (try simp only[go_sem]);repeat' (first|exact trivial|refine And.intro ?_ ?_|rfl|(simp (disch:=omega) only[go_sem,if_yes,if_no,if_no];rfl)|(simp (disch:=omega) only[go_sem,if_yes,if_no,if_no]))) (HOld.refl _) ?_
 rintro ⟨i,g2⟩ c2 ⟨hi,hB2,ha2,hk2,hg2⟩ hc2
 dsimp only at hi hB2 ha2 hk2 hg2 hc2
 simp only[go_sem]
 by_cases hil:i < l.length
 case neg =>
  obtain rfl:i=l.length:=by omega
  have hB3:BdZ h0 (g2.tick (c2+1+1)) lb (bs ++ word ++ numsT l):=by rw [List.take_length] at hB2;exact hB2
  have hlt:=hlen l.length
  rw [List.take_length] at hlt
  repeat' (first|refine st_seq_reg rfl (by first|(simp only[go_sem,length_map];rfl)|rfl) (by first|(simp only[go_sem,length_map];rfl)|rfl) ?_|refine st_reg rfl (by first|(simp only[go_sem,length_map];rfl)|rfl) (by first|(simp only[go_sem,length_map];rfl)|rfl) ?_|refine st_op ?_|refine st_det rfl (by simp (disch:=omega) only[go_sem,wr_i64,length_map];rfl) ?_|(refine st_callf rfl rfl (c80 10 hB3 (by simp only[List.length_append];omega)) ?_;rintro v' h2 ⟨rfl,hB4,ha4,hk4,hg4⟩)|(refine st_condS rfl ?_ ?_ <;> intro hg <;> (try simp only[dcT,dcF,bnT,bnF] at hg))|refine st_nil ?_|refine st_tN ?_|refine st_seq ?_|refine st_block ?_|refine st_skip ?_|refine st_exit ?_|refine st_tE ?_|refine st_bH ?_)
  all_goals try (exfalso;omega)
  simp (disch:=omega) only[AEnd,Tryz.results77,aresK,fin,go_sem,implies_true,true_and,and_true,List.reverse_cons,List.reverse_nil]
  refine ⟨?_,ha4.trans ha2,?_,hg4.trans (hg2.trans hgl.symm)⟩
  ·show BdZ h0 h2 lb _
   have e:bs ++ rowT word l=bs ++ word ++ numsT l ++ [10]:=by unfold rowT;simp [List.append_assoc]
   rw [e];exact hB4
  ·show h.clk≤h2.clk
   have:h2.clk=c2+1+1:=hk4
   omega
 have hx:=hn2 _ (int_mem hil)
 have hit:=itoa_length_le _ hx.1 hx.2
 have hB3:∀ n,BdZ h0 (g2.tick n) lb (bs ++ word ++ numsT (l.take i)):=fun _=>hB2
 have hlt:=hlen i
 repeat' (first|refine st_seq_reg rfl (by first|(simp only[go_sem,length_map,iv_getD hil];rfl)|rfl) (by first|(simp only[go_sem,length_map,iv_getD hil];rfl)|rfl) ?_|refine st_reg rfl (by first|(simp only[go_sem,length_map,iv_getD hil];rfl)|rfl) (by first|(simp only[go_sem,length_map,iv_getD hil];rfl)|rfl) ?_|refine st_op ?_|refine st_det rfl (by simp (disch:=omega) only[go_sem,wr_i64,length_map,iv_getD hil];rfl) ?_|(refine st_pureGE rfl rfl (c79 (l.getD i 0) hx.1 hx.2) (by exact hg2) (by rfl) (by intro n;rfl) ?_;intro n hn)|(refine st_callf rfl rfl (c78 (hB3 _) (s:=32 :: itoa (l.getD i 0)) (by simp only[List.length_append,List.length_cons];omega)) ?_;rintro v' h2 ⟨rfl,hB4,ha4,hk4,hg4⟩)|(refine st_condS rfl ?_ ?_ <;> intro hg <;> (try simp only[dcT,dcF,bnT,bnF] at hg))|refine st_nil ?_|refine st_tN ?_|refine st_seq ?_|refine st_block ?_|refine st_skip ?_|refine st_exit ?_|refine st_tE ?_|refine st_bN ?_|refine st_bH ?_)
 all_goals try (exfalso;omega)
 have hB5:BdZ h0 h2 lb (bs ++ word ++ numsT (l.take (i+1))):=by rw [numsT_take hil,← List.append_assoc];exact hB4
 refine ⟨(i+1,_),(by exact ⟨by show i+1≤l.length;omega,hB5,ha4.trans ha2,by (have e4:h2.clk=n:=hk4;have e5:c2≤n:=Nat.le_trans (Nat.le_add_right _ 3) hn;try simp only[go_sem];omega),hg4.trans hg2⟩),(by show l.length - (i+1) < l.length - i;omega),(by repeat' (first|exact trivial|refine And.intro ?_ ?_|rfl|(simp (disch:=omega) only[go_sem,if_yes,if_no,if_no];rfl)|(simp (disch:=omega) only[go_sem,if_yes,if_no,if_no]))),(by repeat' (first|exact trivial|refine And.intro ?_ ?_|rfl|(simp (disch:=omega) only[go_sem,if_yes,if_no,if_no];rfl)|(simp (disch:=omega) only[go_sem,if_yes,if_no,if_no]))),rfl,HOld.refl _⟩
theorem c77n (word:List UInt8) (lb:Nat) (bs:List UInt8) (h0 h:AH) (hgl:h.gl=gT) (hB:BdZ h0 h lb bs) (hb:bs.length≤1000000000) (hw:word.length≤1000) :
  ACalls Tryz.prog 77 [.str word,.nils,.gptr lb 0] h (fun v h'=>v=.tup []∧BdZ h0 h' lb (bs ++ rowT word [])∧h'.at_=h.at_∧h.clk≤h'.clk∧h'.gl=h.gl):=by
 have H:=c77 word [] lb bs h0 h hgl hB ⟨by simp,fun x hx=>by simp at hx⟩ hb hw
 refine ⟨H.1,fun c xs hh hv=>H.2 c xs hh (VLes.rel ?_ hv)⟩
 simp only[VLes]
 exact ⟨_,_,rfl,VLe.refl _,_,_,rfl,VLe.nils 1,_,_,rfl,VLe.refl _,rfl⟩
end Go.Proofs.YtaijkalhkgjakaaGreatDoor

namespace Go.Proofs.YtaijkalhkgjakaaGreatDoor
open Go.Av Go.Txt Go.Lib
attribute [local irreducible] thenA blockA awp awpOps awpD awp1
attribute [local go_sem_proc] Nat.reduceAdd Nat.reduceMul Nat.reduceEqDiff Nat.reduceBEq Nat.reduceLeDiff
attribute [local go_sem_proc ↓] reduceIte
attribute [local go_sem] if_yes if_no
set_option maxHeartbeats 8000000
set_option maxRecDepth 20000
theorem c112 (n lo hi:Int):Pure Tryz.prog 112 [.int .i64 n,.int .i64 lo,.int .i64 hi] (fun v=>v=.bool (decide (lo≤n∧n≤hi))):=by
 intro h
 refine ACalls.forget (ACalls.of tab mixed Tryz.call112 Tryz.func112 rfl (fi:=⟨15,[],[],none,[]⟩) rfl rfl (Nat.le_of_ble_eq_true rfl) (by decide) ?_)
 unfold startA
 try simp only[go_sem]
 repeat' (first|refine st_seq_reg rfl (by first|(simp only[go_sem];rfl)|rfl) (by first|(simp only[go_sem];rfl)|rfl) ?_|refine st_op ?_|refine st_det rfl (by simp (disch:=omega) only[go_sem,wr_i64];rfl) ?_|refine st_gT rfl rfl rfl ?_|refine st_gF rfl rfl rfl ?_|(refine st_gS rfl rfl ?_ ?_ <;> intro hg <;> (try simp only[dcT,dcF,bnT,bnF] at hg))|refine st_nil ?_|refine st_ret ?_)
 all_goals
  simp (disch:=omega) only[AEnd,Tryz.results112,aresK,fin,go_sem,implies_true,true_and,and_true,List.reverse_cons,List.reverse_nil]
  try simp [*]
theorem c82 (S:Sp):Pure Tryz.prog 82 [S.av] (fun v=>v=.int .i64 (shopE S)):=by
 intro h
 refine ACalls.forget (ACalls.of tab mixed Tryz.call82 Tryz.func82 rfl (fi:=⟨43,[4],[1],none,[]⟩) rfl rfl (Nat.le_of_ble_eq_true rfl) (by decide) ?_)
 unfold startA
 simp only[go_sem]
 repeat' (first|refine st_seq_reg rfl (by first|(simp only[go_sem];rfl)|rfl) (by first|(simp only[go_sem];rfl)|rfl) ?_|refine st_op ?_|refine st_det rfl (by simp (disch:=omega) only[go_sem,wr_i64];rfl) ?_|refine st_gT rfl rfl rfl ?_|refine st_gF rfl rfl rfl ?_|(refine st_gS rfl rfl ?_ ?_ <;> intro hg <;> (try simp only[dcT,dcF,bnT,bnF] at hg))|refine st_condT rfl ?_|(refine st_condS rfl ?_ ?_ <;> intro hg <;> (try simp only[dcT,dcF,bnT,bnF] at hg))|refine st_nil ?_|refine st_tN ?_|refine st_seq ?_|refine st_block ?_|refine st_skip ?_|refine st_ret ?_|refine st_tR ?_)
 case' refine_2.refine_2.refine_2 =>
  refine st_loopC (α:=Nat) tab mixed [] [] (by repeat (first|exact trivial|refine ⟨rfl,?_⟩)) [] [] (by repeat (first|exact trivial|refine ⟨rfl,?_⟩)) (fun i=>[(3,.int .i64 i)]) [(1,_),(2,_)] (fun _=>[]) [] (fun i=>i≤S.js.length∧jobsE (S.js.drop i)=jobsE S.js) (fun i=>S.js.length - i) (by decide) 0 ⟨by omega,rfl⟩ (by (try simp only[go_sem]);repeat' (first|exact trivial|refine And.intro ?_ ?_|rfl|(simp (disch:=omega) only[go_sem,if_yes,if_no,if_no];rfl)|(simp (disch:=omega) only[go_sem,if_yes,if_no,if_no]))) (by (try simp only[go_sem]);repeat' (first|exact trivial|refine And.intro ?_ ?_|rfl|(simp (disch:=omega) only[go_sem,if_yes,if_no,if_no];rfl)|(simp (disch:=omega) only[go_sem,if_yes,if_no,if_no]))) (by first|(simp only[go_sem];rfl)|rfl) (by intro n;simp only[go_sem];rfl) ?_
  rintro i c ⟨hi',hall⟩ hc
  simp only[go_sem]
  repeat' (first|refine st_seq_reg rfl (by first|(simp only[go_sem];rfl)|rfl) (by first|(simp only[go_sem];rfl)|rfl) ?_|refine st_reg rfl (by first|(simp only[go_sem];rfl)|rfl) (by first|(simp only[go_sem];rfl)|rfl) ?_|refine st_op ?_|refine st_det rfl (by simp (disch:=omega) only[go_sem,wr_i64];rfl) ?_|refine st_loc rfl (by simp (disch:=omega) only[go_sem,wr_i64];rfl) ?_|refine st_store (by simp (disch:=omega) only[go_sem,wr_i64];rfl) ?_|(refine st_pureE (by first|(simp (disch:=omega) only[go_sem];rfl)|rfl) rfl (c112 _ _ _) (by first|(simp only[go_sem];rfl)|rfl) (by intro n;first|(simp (disch:=omega) only[go_sem];rfl)|rfl) ?_;intro n hn)|(refine st_condS rfl ?_ ?_ <;> intro hg <;> (try simp only[dcT,dcF,bnT,bnF] at hg))|refine st_nil ?_|refine st_tN ?_|refine st_seq ?_|refine st_block ?_|refine st_skip ?_|refine st_exit ?_|refine st_ret ?_|refine st_tE ?_|refine st_tR ?_|refine st_bN ?_|refine st_bR ?_|refine st_bH ?_)
  ·simp (disch:=omega) only[AEnd,Tryz.results82,aresK,fin,go_sem,implies_true,true_and,and_true,List.reverse_cons,List.reverse_nil]
   rw [shop_in (by omega) (by omega) (by omega),jobs_f (by omega) hall (by omega)]
  ·simp (disch:=omega) only[AEnd,Tryz.results82,aresK,fin,go_sem,implies_true,true_and,and_true,List.reverse_cons,List.reverse_nil]
   rw [shop_in (by omega) (by omega) (by omega),jobs_s (by omega) hall (by omega) (by omega)]
  ·simp (disch:=omega) only[AEnd,Tryz.results82,aresK,fin,go_sem,implies_true,true_and,and_true,List.reverse_cons,List.reverse_nil]
   rw [shop_in (by omega) (by omega) (by omega),jobs_d (by omega) hall (by omega) (by omega) (by omega)]
  ·refine ⟨i+1,⟨by omega,jobs_ok (by omega) hall (by omega) (by omega) (by omega)⟩,by omega,(by repeat' (first|exact trivial|refine And.intro ?_ ?_|rfl|(simp (disch:=omega) only[go_sem,if_yes,if_no,if_no];rfl)|(simp (disch:=omega) only[go_sem,if_yes,if_no,if_no]))),(by repeat' (first|exact trivial|refine And.intro ?_ ?_|rfl|(simp (disch:=omega) only[go_sem,if_yes,if_no,if_no];rfl)|(simp (disch:=omega) only[go_sem,if_yes,if_no,if_no]))),rfl,(by first|exact HOld.of _ (by omega)|exact HOld.put _ _ _ (by omega))⟩
  ·simp (disch:=omega) only[AEnd,Tryz.results82,aresK,fin,go_sem,implies_true,true_and,and_true,List.reverse_cons,List.reverse_nil]
   rw [List.drop_eq_nil_of_le (by omega),jobsE] at hall
   rw [shop_in (by omega) (by omega) (by omega),← hall]
 all_goals
  simp (disch:=omega) only[AEnd,Tryz.results82,aresK,fin,go_sem,implies_true,true_and,and_true,List.reverse_cons,List.reverse_nil]
  first
  | rw [shop_0 (by omega)]
  | rw [shop_4 (by omega) (by omega)]
  | rw [shop_7 (by omega) (by omega) (by omega)]
theorem c84 (b:Bool):Pure Tryz.prog 84 [.bool b] (fun v=>v=.int .i64 (if b=true then 1 else 0)):=by
 intro h
 cases b
 all_goals
  refine ACalls.forget (ACalls.of tab mixed Tryz.call84 Tryz.func84 rfl (fi:=⟨4,[],[],none,[]⟩) rfl rfl (Nat.le_of_ble_eq_true rfl) (by decide) ?_)
  unfold startA
  try simp only[go_sem]
  repeat' (first|refine st_seq_reg rfl (by first|(simp only[go_sem];rfl)|rfl) (by first|(simp only[go_sem];rfl)|rfl) ?_|refine st_op ?_|refine st_det rfl (by simp (disch:=omega) only[go_sem,wr_i64];rfl) ?_|refine st_condT rfl ?_|refine st_condF rfl ?_|refine st_nil ?_|refine st_tN ?_|refine st_seq ?_|refine st_skip ?_|refine st_ret ?_|refine st_tR ?_)
  simp (disch:=omega) only[AEnd,Tryz.results84,aresK,fin,go_sem,implies_true,true_and,and_true,List.reverse_cons,List.reverse_nil]
def rowN (w:List UInt8) (l:List Int):Nat→List UInt8
 | 0=>w
 | i+1=>rowN w l i ++ [32] ++ itoa (l.getD i 0)
theorem rowN_eq {w:List UInt8} {l:List Int}:∀ {i:Nat},i≤l.length→rowN w l i=w ++ numsT (l.take i)
 | 0,_=>by simp [rowN,numsT]
 | i+1,h=>by rw [rowN,rowN_eq (Nat.le_of_lt h),numsT_take h];simp [List.append_assoc]
theorem add_str {tt:Nat→TI} {t:Nat} {c:Bool} {a b:List UInt8} (h:a.length+b.length≤4611686018427387904):abin (tt t) .add c (.str a) (.str b)=some (.str (a ++ b)):=by
 unfold abin;dsimp only;rw [if_pos h]
theorem c83 (word:List UInt8) (l:List Int) (hn:NumOk l) (hw:word.length≤1000):PureG gT Tryz.prog 83 [.str word,.lst 1 (l.map iv)] (fun v=>v=.str (rowT word l)):=by
 intro h hgl
 obtain ⟨hn1,hn2⟩:=hn
 have hlen:∀ i,(numsT (l.take i)).length≤22000000:=fun i=>by
  have:=numsT_len (l:=l.take i) (fun x hx=>hn2 x (List.mem_of_mem_take hx))
  rw [List.length_take] at this
  omega
 refine ACalls.forget (ACalls.of tab mixed Tryz.call83 Tryz.func83 rfl (fi:=⟨22,[],[],none,[]⟩) rfl rfl (Nat.le_of_ble_eq_true rfl) (by decide) ?_)
 unfold startA
 try simp only[go_sem]
 repeat' (first|refine st_seq_reg rfl (by first|(simp only[go_sem,length_map];rfl)|rfl) (by first|(simp only[go_sem,length_map];rfl)|rfl) ?_|refine st_op ?_|refine st_det rfl (by simp (disch:=omega) only[go_sem,wr_i64,length_map];rfl) ?_|refine st_nil ?_|refine st_seq ?_|refine st_block ?_)
 refine st_loopC (α:=Nat) tab mixed [] [] (by repeat (first|exact trivial|refine ⟨rfl,?_⟩)) [] [] (by repeat (first|exact trivial|refine ⟨rfl,?_⟩)) (fun i=>[(5,.int .i64 (i:Nat)),(0,.str (rowN word l i))]) [(1,_)] (fun _=>[]) [] (fun i=>i≤l.length) (fun i=>l.length - i) (by decide) 0 (Nat.zero_le _) (by (try simp only[go_sem]);repeat' (first|exact trivial|refine And.intro ?_ ?_|rfl|(simp (disch:=omega) only[go_sem,if_yes,if_no,if_no];rfl)|(simp (disch:=omega) only[go_sem,if_yes,if_no,if_no]))) (by (try simp only[go_sem]);repeat' (first|exact trivial|refine And.intro ?_ ?_|rfl|(simp (disch:=omega) only[go_sem,if_yes,if_no,if_no];rfl)|(simp (disch:=omega) only[go_sem,if_yes,if_no,if_no]))) (by first|(simp only[go_sem];rfl)|rfl) (by intro n;simp only[go_sem];rfl) ?_
 rintro i c2 hi hc2
 simp only[go_sem]
 have hlt:=hlen i
 have hrl:(rowN word l i).length≤22001000:=by rw [rowN_eq hi,List.length_append];omega
 clear hlt
 by_cases hil:i < l.length
 case neg =>
  obtain rfl:i=l.length:=by omega
  have e1:rowN word l l.length=word ++ numsT l:=by rw [rowN_eq (Nat.le_refl _),List.take_length]
  repeat' (first|refine st_seq_reg rfl (by first|(simp only[go_sem,length_map,add_str,List.length_append,List.length_cons,List.length_nil];rfl)|rfl) (by first|(simp only[go_sem,length_map,add_str,List.length_append,List.length_cons,List.length_nil];rfl)|rfl) ?_|refine st_reg rfl (by first|(simp only[go_sem,length_map,add_str,List.length_append,List.length_cons,List.length_nil];rfl)|rfl) (by first|(simp only[go_sem,length_map,add_str,List.length_append,List.length_cons,List.length_nil];rfl)|rfl) ?_|refine st_op ?_|refine st_det rfl (by simp (disch:=omega) only[go_sem,wr_i64,length_map,add_str,List.length_append,List.length_cons,List.length_nil];rfl) ?_|(refine st_condS rfl ?_ ?_ <;> intro hg <;> (try simp only[dcT,dcF,bnT,bnF] at hg))|refine st_nil ?_|refine st_tN ?_|refine st_seq ?_|refine st_block ?_|refine st_skip ?_|refine st_exit ?_|refine st_ret ?_|refine st_tE ?_|refine st_bH ?_)
  all_goals try (exfalso;omega)
  simp (disch:=omega) only[AEnd,Tryz.results83,aresK,fin,go_sem,implies_true,true_and,and_true,List.reverse_cons,List.reverse_nil]
  rw [e1];rfl
 have hx:=hn2 _ (int_mem hil)
 have hit:=itoa_length_le _ hx.1 hx.2
 repeat' (first|refine st_seq_reg rfl (by first|(simp only[go_sem,length_map,iv_getD hil,add_str,List.length_append,List.length_cons,List.length_nil];rfl)|rfl) (by first|(simp only[go_sem,length_map,iv_getD hil,add_str,List.length_append,List.length_cons,List.length_nil];rfl)|rfl) ?_|refine st_reg rfl (by first|(simp only[go_sem,length_map,iv_getD hil,add_str,List.length_append,List.length_cons,List.length_nil];rfl)|rfl) (by first|(simp only[go_sem,length_map,iv_getD hil,add_str,List.length_append,List.length_cons,List.length_nil];rfl)|rfl) ?_|refine st_op ?_|refine st_det rfl (by simp (disch:=omega) only[go_sem,wr_i64,length_map,iv_getD hil,add_str,List.length_append,List.length_cons,List.length_nil];rfl) ?_|(refine st_pureGE (by first|(simp (disch:=omega) only[go_sem,length_map,iv_getD hil,add_str,List.length_append,List.length_cons,List.length_nil];rfl)|rfl) rfl (c79 (l.getD i 0) hx.1 hx.2) (by exact hgl) (by first|(simp only[go_sem,length_map,iv_getD hil,add_str,List.length_append,List.length_cons,List.length_nil];rfl)|rfl) (by intro n;first|(simp (disch:=omega) only[go_sem];rfl)|rfl) ?_;intro n hn)|(refine st_condS rfl ?_ ?_ <;> intro hg <;> (try simp only[dcT,dcF,bnT,bnF] at hg))|refine st_nil ?_|refine st_tN ?_|refine st_seq ?_|refine st_block ?_|refine st_skip ?_|refine st_exit ?_|refine st_ret ?_|refine st_tE ?_|refine st_bN ?_|refine st_bH ?_)
 all_goals try (exfalso;omega)
 refine ⟨i+1,(by omega),by omega,(by repeat' (first|exact trivial|refine And.intro ?_ ?_|rfl|(simp (disch:=omega) only[go_sem,if_yes,if_no,if_no];rfl)|(simp (disch:=omega) only[go_sem,if_yes,if_no,if_no]))),(by repeat' (first|exact trivial|refine And.intro ?_ ?_|rfl|(simp (disch:=omega) only[go_sem,if_yes,if_no,if_no];rfl)|(simp (disch:=omega) only[go_sem,if_yes,if_no,if_no]))),rfl,(by first|exact HOld.of _ (by omega)|exact HOld.put _ _ _ (by omega))⟩
end Go.Proofs.YtaijkalhkgjakaaGreatDoor
