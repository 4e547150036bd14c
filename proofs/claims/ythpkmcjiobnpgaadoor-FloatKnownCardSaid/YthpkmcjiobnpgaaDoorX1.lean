/- Contracts of functions that the claim reaches: what each call gives, told in our own logic. Conditions: those of each theorem. -/
import Derived.Test.YthpkmcjiobnpgaaDoorF3b
import Derived.Test.YthpkmcjiobnpgaaDoorPB3
open List (length_map)
set_option linter.all false
set_option linter.unusedSimpArgs false
set_option linter.unusedVariables false
namespace Go.Proofs.YthpkmcjiobnpgaaDoor
open Go.Av
attribute [local irreducible] thenA blockA awp awpOps awpD awp1
attribute [local go_sem_proc] Nat.reduceAdd Nat.reduceMul Nat.reduceEqDiff Nat.reduceBEq Nat.reduceLeDiff
attribute [local go_sem_proc ↓] reduceIte
attribute [local go_sem] if_yes if_no
set_option maxHeartbeats 8000000
set_option maxRecDepth 20000
def wl (arm:Int→Int) (s:Int) (l:List Ld):Int:=s+(l.map fun x=>x.lo * arm x.at_).sum
def wh (arm:Int→Int) (s:Int) (l:List Ld):Int:=s+(l.map fun x=>x.hi * arm x.at_).sum
def LdOk (x:Ld):Prop:=0≤x.at_∧x.at_≤3000∧0≤x.lo∧x.lo≤x.hi∧x.hi≤100000
structure FlOk (f:Fl):Prop where
 len:1≤f.len∧f.len≤3000
 wid:1≤f.wid∧f.wid≤1000
 axles:0≤f.front∧f.front < f.rear∧f.rear≤f.len
 turn:0≤f.turn∧f.turn≤20000
 kilos:0≤f.kilos∧f.kilos≤100000
 mid:0≤f.mid∧f.mid≤f.len
 high:0≤f.high∧f.high≤2000
 loads:f.loads.length≤30∧∀ x ∈ f.loads,LdOk x
theorem ld_mem {l:List Ld} {i:Nat} (h:i < l.length):ld l i ∈ l:=by
 unfold ld;rw [List.getD_eq_getElem?_getD,List.getElem?_eq_getElem h];exact List.getElem_mem h
theorem hu_mem {l:List Hu} {i:Nat} (h:i < l.length):hu l i ∈ l:=by
 unfold hu;rw [List.getD_eq_getElem?_getD,List.getElem?_eq_getElem h];exact List.getElem_mem h
theorem mul_bd {k x K A:Int} (hk:0≤k∧k≤K) (hx:-A≤x∧x≤A):-(K * A)≤k * x∧k * x≤K * A:=by
 have hA:0≤A:=by omega
 have h1:=Int.mul_le_mul_of_nonneg_left hx.2 hk.1
 have h2:=Int.mul_le_mul_of_nonneg_left hx.1 hk.1
 have h3:=Int.mul_le_mul_of_nonneg_right hk.2 hA
 rw [Int.mul_neg] at h2
 omega
theorem c45 (a:Int):Pure Tryd.prog 45 [.int .i64 a] (fun v=>v=.int .i64 1):=by
 intro h
 refine ACalls.forget (ACalls.of tab mixed Tryd.call45 Tryd.func45 rfl (fi:=⟨3,[],[],none,[]⟩) rfl rfl (Nat.le_of_ble_eq_true rfl) (by decide) ?_)
 unfold startA
 repeat' (first|refine st_seq_reg rfl (by first|(simp only[go_sem];rfl)|rfl) (by first|(simp only[go_sem];rfl)|rfl) ?_|refine st_reg rfl (by first|(simp only[go_sem];rfl)|rfl) (by first|(simp only[go_sem];rfl)|rfl) ?_|refine st_op ?_|refine st_det rfl (by simp (disch:=omega) only[go_sem,wr_i64];rfl) ?_|refine st_nil ?_|refine st_tN ?_|refine st_seq ?_|refine st_skip ?_|refine st_ret ?_|refine st_tE ?_|refine st_tR ?_)
 simp (disch:=omega) only[AEnd,Tryd.results45,aresK,fin,go_sem,implies_true,true_and,and_true,List.reverse_cons,List.reverse_nil]
theorem c54 (f:Fl) (p m a:Int) (ha:0≤a∧a≤3000) (hf:0≤f.rear∧f.rear≤3000):Pure Tryd.prog 54 [.int .i64 a,.iptr (Tk.av f p m).cells 0] (fun v=>v=.int .i64 (f.rear - a)):=by
 intro h
 refine ACalls.forget (ACalls.of tab mixed Tryd.call54 Tryd.func54 rfl (fi:=⟨9,[],[],none,[]⟩) rfl rfl (Nat.le_of_ble_eq_true rfl) (by decide) ?_)
 unfold startA
 simp only[go_sem]
 repeat' (first|refine st_seq_reg rfl (by first|(simp only[go_sem];rfl)|rfl) (by first|(simp only[go_sem];rfl)|rfl) ?_|refine st_reg rfl (by first|(simp only[go_sem];rfl)|rfl) (by first|(simp only[go_sem];rfl)|rfl) ?_|refine st_op ?_|refine st_det rfl (by simp (disch:=omega) only[go_sem,wr_i64];rfl) ?_|refine st_nil ?_|refine st_tN ?_|refine st_seq ?_|refine st_skip ?_|refine st_ret ?_|refine st_tE ?_|refine st_tR ?_)
 simp (disch:=omega) only[AEnd,Tryd.results54,aresK,fin,go_sem,implies_true,true_and,and_true,List.reverse_cons,List.reverse_nil]
theorem c55 (f:Fl) (p m a:Int) (ha:0≤a∧a≤3000) (hf:0≤f.front∧f.front≤3000):Pure Tryd.prog 55 [.int .i64 a,.iptr (Tk.av f p m).cells 0] (fun v=>v=.int .i64 (a - f.front)):=by
 intro h
 refine ACalls.forget (ACalls.of tab mixed Tryd.call55 Tryd.func55 rfl (fi:=⟨9,[],[],none,[]⟩) rfl rfl (Nat.le_of_ble_eq_true rfl) (by decide) ?_)
 unfold startA
 simp only[go_sem]
 repeat' (first|refine st_seq_reg rfl (by first|(simp only[go_sem];rfl)|rfl) (by first|(simp only[go_sem];rfl)|rfl) ?_|refine st_reg rfl (by first|(simp only[go_sem];rfl)|rfl) (by first|(simp only[go_sem];rfl)|rfl) ?_|refine st_op ?_|refine st_det rfl (by simp (disch:=omega) only[go_sem,wr_i64];rfl) ?_|refine st_nil ?_|refine st_tN ?_|refine st_seq ?_|refine st_skip ?_|refine st_ret ?_|refine st_tE ?_|refine st_tR ?_)
 simp (disch:=omega) only[AEnd,Tryd.results55,aresK,fin,go_sem,implies_true,true_and,and_true,List.reverse_cons,List.reverse_nil]
theorem c32 (f:Fl) (p m:Int) (hf:FlOk f):Pure Tryd.prog 32 [Tk.av f p m] (fun v=>v=.int .i64 (f.rear - f.front)):=by
 have:=hf.len;have:=hf.axles
 intro h
 refine ACalls.forget (ACalls.of tab mixed Tryd.call32 Tryd.func32 rfl (fi:=⟨10,[],[1],none,[]⟩) rfl rfl (Nat.le_of_ble_eq_true rfl) (by decide) ?_)
 unfold startA
 simp only[go_sem]
 repeat' (first|refine st_seq_reg rfl (by first|(simp only[go_sem];rfl)|rfl) (by first|(simp only[go_sem];rfl)|rfl) ?_|refine st_reg rfl (by first|(simp only[go_sem];rfl)|rfl) (by first|(simp only[go_sem];rfl)|rfl) ?_|refine st_op ?_|refine st_det rfl (by simp (disch:=omega) only[go_sem,wr_i64];rfl) ?_|refine st_loc rfl (by simp (disch:=omega) only[go_sem,wr_i64];rfl) ?_|refine st_heap rfl (by simp (disch:=omega) only[go_sem,wr_i64];rfl) ?_|refine st_nil ?_|refine st_tN ?_|refine st_seq ?_|refine st_skip ?_|refine st_ret ?_|refine st_tE ?_|refine st_tR ?_)
 simp (disch:=omega) only[AEnd,Tryd.results32,aresK,fin,go_sem,implies_true,true_and,and_true,List.reverse_cons,List.reverse_nil]
theorem c47 (a b:Bool):Pure Tryd.prog 47 [.bool a,.bool b] (fun v=>v=.int .i64 (if a then 1 else if b then 3 else 2)):=by
 intro h
 refine ACalls.forget (ACalls.of tab mixed Tryd.call47 Tryd.func47 rfl (fi:=⟨9,[],[],none,[]⟩) rfl rfl (Nat.le_of_ble_eq_true rfl) (by decide) ?_)
 unfold startA
 repeat' (first|refine st_seq_reg rfl (by first|(simp only[go_sem];rfl)|rfl) (by first|(simp only[go_sem];rfl)|rfl) ?_|refine st_reg rfl (by first|(simp only[go_sem];rfl)|rfl) (by first|(simp only[go_sem];rfl)|rfl) ?_|refine st_op ?_|refine st_det rfl (by simp (disch:=omega) only[go_sem,wr_i64];rfl) ?_|refine st_condT rfl ?_|refine st_condF rfl ?_|(refine st_condS rfl ?_ ?_ <;> intro hg <;> (try simp only[dcT,dcF,bnT,bnF] at hg))|refine st_nil ?_|refine st_tN ?_|refine st_seq ?_|refine st_block ?_|refine st_skip ?_|refine st_exit ?_|refine st_ret ?_|refine st_tE ?_|refine st_tR ?_|refine st_bN ?_|refine st_bR ?_|refine st_bH ?_|refine st_bM rfl ?_)
 all_goals
  simp (disch:=omega) only[AEnd,Tryd.results47,aresK,fin,go_sem,implies_true,true_and,and_true,List.reverse_cons,List.reverse_nil]
  all_goals simp [*]
end Go.Proofs.YthpkmcjiobnpgaaDoor

namespace Go.Proofs.YthpkmcjiobnpgaaDoor
open Go.Av
attribute [local irreducible] thenA blockA awp awpOps awpD awp1
attribute [local go_sem_proc] Nat.reduceAdd Nat.reduceMul Nat.reduceEqDiff Nat.reduceBEq Nat.reduceLeDiff
attribute [local go_sem_proc ↓] reduceIte
attribute [local go_sem] if_yes if_no
set_option maxHeartbeats 8000000
set_option maxRecDepth 20000
theorem take_ld {α:Type} {l:List α} {i:Nat} (d:α) (h:i < l.length) (f:α→Int):((l.take (i+1)).map f).sum=((l.take i).map f).sum+f (l.getD i d):=by
 rw [List.take_succ_eq_append_getElem h,List.map_append,List.sum_append,List.getD_eq_getElem?_getD,List.getElem?_eq_getElem h];simp
@[go_sem] theorem wl_nil (arm:Int→Int) (s:Int):wl arm s []=s:=by simp [wl]
@[go_sem] theorem wh_nil (arm:Int→Int) (s:Int):wh arm s []=s:=by simp [wh]
theorem wl_step {arm:Int→Int} {s:Int} {l:List Ld} {i:Nat} (h:i < l.length):wl arm s (l.take (i+1))=wl arm s (l.take i)+(ld l i).lo * arm (ld l i).at_:=by
 unfold wl;rw [take_ld ⟨0,0,0,0,0,0,0⟩ h];unfold ld;omega
theorem wh_step {arm:Int→Int} {s:Int} {l:List Ld} {i:Nat} (h:i < l.length):wh arm s (l.take (i+1))=wh arm s (l.take i)+(ld l i).hi * arm (ld l i).at_:=by
 unfold wh;rw [take_ld ⟨0,0,0,0,0,0,0⟩ h];unfold ld;omega
theorem w_bd {arm:Int→Int} {s:Int} {l:List Ld} (hl:∀ x ∈ l,LdOk x) (hb:∀ a,0≤a→a≤3000→-3000≤arm a∧arm a≤3000):∀ i≤l.length,
  (s - 300000000 * i≤wl arm s (l.take i)∧wl arm s (l.take i)≤s+300000000 * i)∧(s - 300000000 * i≤wh arm s (l.take i)∧wh arm s (l.take i)≤s+300000000 * i):=by
 intro i
 induction i with
 | zero=>intro _;simp [wl,wh]
 | succ i ih =>
  intro hi
  have h0:=ih (by omega)
  rw [wl_step (by omega),wh_step (by omega)]
  have hx:=hl _ (ld_mem (l:=l) (i:=i) (by omega))
  unfold LdOk at hx
  have:=hb _ hx.1 hx.2.1
  have h1:=mul_bd (k:=(ld l i).lo) (K:=100000) (A:=3000) (by omega) this
  have h2:=mul_bd (k:=(ld l i).hi) (K:=100000) (A:=3000) (by omega) this
  omega
theorem c44 (f:Fl) (p m:Int) (g:FuncId) (cap:List AV) (arm:Int→Int) (hf:FlOk f) (hp:0≤p∧p≤3000) (hm:0≤m∧m≤100000)
  (ha:∀ a,0≤a→a≤3000→Pure Tryd.prog g (([] ++ [.int .i64 a]) ++ cap) (fun v=>v=.int .i64 (arm a))) (hb:∀ a,0≤a→a≤3000→-3000≤arm a∧arm a≤3000) :
  Pure Tryd.prog 44 [Tk.av f p m,.fn (.func g) [] cap] (fun v=>v=.agg [.int .i64 (wl arm (f.kilos * arm f.mid+m * arm p) f.loads),.int .i64 (wh arm (f.kilos * arm f.mid+m * arm p) f.loads)]):=by
 have h1:=hf.len;have h2:=hf.mid;have h3:=hf.kilos;have h4:=hf.loads.1
 have m1:=mul_bd h3 (hb f.mid (by omega) (by omega))
 have m2:=mul_bd hm (hb p (by omega) (by omega))
 have wb:=fun i hi=>w_bd (s:=f.kilos * arm f.mid+m * arm p) hf.loads.2 hb i hi
 have e1:∀ i,i < f.loads.length→_:=fun i h=>wl_step (arm:=arm) (s:=f.kilos * arm f.mid+m * arm p) h
 have e2:∀ i,i < f.loads.length→_:=fun i h=>wh_step (arm:=arm) (s:=f.kilos * arm f.mid+m * arm p) h
 intro h
 refine ACalls.forget (ACalls.of tab mixed Tryd.call44 Tryd.func44 rfl (fi:=⟨65,[4,6,8],[2,25,48,60],none,[(1,[0,1,3,0,0,16,48,120,255,0,512,0,0,4096,14584,32504,65535,131071,262143],[(0,false),(1,false),(2,true),(3,false),(4,false),(5,false),(6,true),(9,false),(10,true),(11,false),(12,false),(13,true),(7,false),(8,false),(14,false),(15,false),(16,false),(17,false),(18,false)]),(6,[0,1,0,4,12,0,0,64,224,508,1023,2047,0,4096,0,16384,49152,0,0,262144,921599,2084863,4194303,8388607,16777215,33554431],[(0,false),(1,true),(2,false),(3,false),(4,true),(5,false),(6,false),(7,true),(12,false),(13,true),(14,false),(15,false),(16,true),(17,false),(18,false),(19,true),(8,false),(9,false),(10,false),(11,false),(20,false),(21,false),(22,false),(23,false),(24,false),(25,false)])]⟩) rfl rfl (Nat.le_of_ble_eq_true rfl) (by decide) ?_)
 unfold startA
 simp only[go_sem]
 repeat' (first|refine st_seq_reg rfl (by first|(simp only[go_sem];rfl)|rfl) (by first|(simp only[go_sem];rfl)|rfl) ?_|refine st_reg rfl (by first|(simp only[go_sem];rfl)|rfl) (by first|(simp only[go_sem];rfl)|rfl) ?_|refine st_seq_draw rfl (by first|(simp only[go_sem];rfl)|rfl) (by first|(simp only[go_sem];rfl)|rfl) ?_|refine st_draw rfl (by first|(simp only[go_sem];rfl)|rfl) (by first|(simp only[go_sem];rfl)|rfl) ?_|refine st_op ?_|refine st_det rfl (by simp (disch:=omega) only[go_sem,wr_i64];rfl) ?_|refine st_dop rfl ?_|refine st_loc rfl (by simp (disch:=omega) only[go_sem,wr_i64];rfl) ?_|refine st_heap rfl (by simp (disch:=omega) only[go_sem,wr_i64];rfl) ?_|refine st_store (by simp (disch:=omega) only[go_sem,wr_i64];rfl) ?_|(refine st_pureV (by first|(simp only[go_sem];rfl)|rfl) (by first|(simp (disch:=omega) only[go_sem];rfl)|rfl) rfl (ha _ (by omega) (by omega)) (by first|(simp only[go_sem];rfl)|rfl) (by intro n;first|(simp (disch:=omega) only[go_sem];rfl)|rfl) ?_;intro v n hv hn;subst hv)|(refine st_pureE (by first|(simp (disch:=omega) only[go_sem];rfl)|rfl) rfl (sum2 _ _ (by omega) (by omega)) (by first|(simp only[go_sem];rfl)|rfl) (by intro n;first|(simp (disch:=omega) only[go_sem];rfl)|rfl) ?_;intro n hn)|refine st_condT rfl ?_|refine st_condF rfl ?_|(refine st_condS rfl ?_ ?_ <;> intro hg <;> (try simp only[dcT,dcF,bnT,bnF] at hg))|refine st_nil ?_|refine st_dnil ?_|refine st_tN ?_|refine st_seq ?_|refine st_block ?_|refine st_skip ?_|refine st_exit ?_|refine st_ret ?_|refine st_tE ?_|refine st_tR ?_|refine st_bN ?_|refine st_bR ?_|refine st_bH ?_|refine st_bM rfl ?_)
 refine st_loopC (α:=Nat) tab mixed [6] [_] (by repeat (first|exact trivial|refine ⟨rfl,?_⟩)) [4] [_] (by repeat (first|exact trivial|refine ⟨rfl,?_⟩)) (fun i=>[(34,.int .i64 i)]) [(1,_),(2,_),(4,_),(6,_),(32,_),(33,_)] (fun i=>[[.int .i64 (wl arm (f.kilos * arm f.mid+m * arm p) (f.loads.take i)),.int .i64 (wh arm (f.kilos * arm f.mid+m * arm p) (f.loads.take i))]]) [_] (fun i=>i≤f.loads.length) (fun i=>f.loads.length - i) (by decide) 0 (by omega) (by (try simp only[go_sem]);repeat' (first|exact trivial|refine And.intro ?_ ?_|rfl|(simp (disch:=omega) only[go_sem,if_yes,if_no,if_no];rfl)|(simp (disch:=omega) only[go_sem,if_yes,if_no,if_no]))) (by (try simp only[go_sem]);repeat' (first|exact trivial|refine And.intro ?_ ?_|rfl|(simp (disch:=omega) only[go_sem,if_yes,if_no,if_no];rfl)|(simp (disch:=omega) only[go_sem,if_yes,if_no,if_no]))) (by first|(simp only[go_sem];rfl)|rfl) (by intro n;simp only[go_sem];rfl) ?_
 rintro i c hi' hc
 simp only[go_sem]
 have w1:=wb i hi'
 have hx:i < f.loads.length→LdOk (ld f.loads i):=fun h=>hf.loads.2 _ (ld_mem h)
 have w2:i < f.loads.length→_:=fun h=>mul_bd (k:=(ld f.loads i).lo) (K:=100000) ⟨(hx h).2.2.1,by have:=hx h;unfold LdOk at this;omega⟩ (hb (ld f.loads i).at_ (hx h).1 (hx h).2.1)
 have w3:i < f.loads.length→_:=fun h=>mul_bd (k:=(ld f.loads i).hi) (K:=100000) ⟨(by have:=hx h;unfold LdOk at this;omega),(hx h).2.2.2.2⟩ (hb (ld f.loads i).at_ (hx h).1 (hx h).2.1)
 have w4:i < f.loads.length→0≤(ld f.loads i).at_∧(ld f.loads i).at_≤3000:=fun h=>⟨(hx h).1,(hx h).2.1⟩
 repeat' (first|refine st_seq_reg rfl (by first|(simp only[go_sem];rfl)|rfl) (by first|(simp only[go_sem];rfl)|rfl) ?_|refine st_reg rfl (by first|(simp only[go_sem];rfl)|rfl) (by first|(simp only[go_sem];rfl)|rfl) ?_|refine st_seq_draw rfl (by first|(simp only[go_sem];rfl)|rfl) (by first|(simp only[go_sem];rfl)|rfl) ?_|refine st_draw rfl (by first|(simp only[go_sem];rfl)|rfl) (by first|(simp only[go_sem];rfl)|rfl) ?_|refine st_op ?_|refine st_det rfl (by simp (disch:=omega) only[go_sem,wr_i64];rfl) ?_|refine st_dop rfl ?_|refine st_loc rfl (by simp (disch:=omega) only[go_sem,wr_i64];rfl) ?_|refine st_heap rfl (by simp (disch:=omega) only[go_sem,wr_i64];rfl) ?_|refine st_store (by simp (disch:=omega) only[go_sem,wr_i64];rfl) ?_|(refine st_pureV (by first|(simp only[go_sem];rfl)|rfl) (by first|(simp (disch:=omega) only[go_sem];rfl)|rfl) rfl (ha _ (by omega) (by omega)) (by first|(simp only[go_sem];rfl)|rfl) (by intro n;first|(simp (disch:=omega) only[go_sem];rfl)|rfl) ?_;intro v n hv hn;subst hv)|(refine st_pureE (by first|(simp (disch:=omega) only[go_sem];rfl)|rfl) rfl (sum2 _ _ (by omega) (by omega)) (by first|(simp only[go_sem];rfl)|rfl) (by intro n;first|(simp (disch:=omega) only[go_sem];rfl)|rfl) ?_;intro n hn)|refine st_condT rfl ?_|refine st_condF rfl ?_|(refine st_condS rfl ?_ ?_ <;> intro hg <;> (try simp only[dcT,dcF,bnT,bnF] at hg))|refine st_nil ?_|refine st_dnil ?_|refine st_tN ?_|refine st_seq ?_|refine st_block ?_|refine st_skip ?_|refine st_exit ?_|refine st_ret ?_|refine st_tE ?_|refine st_tR ?_|refine st_bN ?_|refine st_bR ?_|refine st_bH ?_|refine st_bM rfl ?_)
 ·refine ⟨i+1,(by omega),by omega,(by (try (rw [e1 i (by omega),e2 i (by omega)]));repeat' (first|exact trivial|refine And.intro ?_ ?_|rfl|(simp (disch:=omega) only[go_sem,if_yes,if_no,if_no];rfl)|(simp (disch:=omega) only[go_sem,if_yes,if_no,if_no]))),(by (try (rw [e1 i (by omega),e2 i (by omega)]));repeat' (first|exact trivial|refine And.intro ?_ ?_|rfl|(simp (disch:=omega) only[go_sem,if_yes,if_no,if_no];rfl)|(simp (disch:=omega) only[go_sem,if_yes,if_no,if_no]))),rfl,(by first|exact HOld.of _ (by omega)|exact HOld.put _ _ _ (by omega))⟩
 ·rw [List.take_of_length_le (by omega)]
  simp (disch:=omega) only[AEnd,Tryd.results44,aresK,fin,go_sem,implies_true,true_and,and_true,List.reverse_cons,List.reverse_nil]
end Go.Proofs.YthpkmcjiobnpgaaDoor

namespace Go.Proofs.YthpkmcjiobnpgaaDoor
open Go.Av Go.Txt Go.Lib
attribute [local irreducible] thenA blockA awp awpOps awpD awp1
attribute [local go_sem_proc] Nat.reduceAdd Nat.reduceMul Nat.reduceEqDiff Nat.reduceBEq Nat.reduceLeDiff
attribute [local go_sem_proc ↓] reduceIte
attribute [local go_sem] if_yes if_no
set_option maxHeartbeats 8000000
set_option maxRecDepth 20000
def numsT (l:List Int):List UInt8:=l.flatMap fun n=>32 :: itoa n
def rowT (w:List UInt8) (l:List Int):List UInt8:=w ++ numsT l ++ [10]
def NumOk (l:List Int):Prop:=l.length≤1000000∧∀ x ∈ l,-9223372036854775808≤x∧x≤9223372036854775807
theorem numsT_len {l:List Int} (h:∀ x ∈ l,-9223372036854775808≤x∧x≤9223372036854775807):(numsT l).length≤22 * l.length:=by
 induction l with
 | nil=>exact Nat.le_refl _
 | cons x l ih =>
  have h1:=h x (by simp)
  have h2:=itoa_length_le x h1.1 h1.2
  have h3:=ih (fun y hy=>h y (by simp [hy]))
  unfold numsT at h3 ⊢
  rw [List.flatMap_cons,List.length_append,List.length_cons,List.length_cons]
  omega
theorem numsT_take {l:List Int} {i:Nat} (h:i < l.length):numsT (l.take (i+1))=numsT (l.take i) ++ (32 :: itoa (l.getD i 0)):=by
 unfold numsT
 rw [List.take_succ,List.flatMap_append,List.getElem?_eq_getElem h,List.getD_eq_getElem?_getD,List.getElem?_eq_getElem h]
 simp
theorem iv_getD {l:List Int} {i:Nat} (h:i < l.length):(l.map iv).getD i []=[.int .i64 (l.getD i 0)]:=by
 rw [List.getD_eq_getElem?_getD,List.getElem?_map,List.getElem?_eq_getElem h,List.getD_eq_getElem?_getD,List.getElem?_eq_getElem h];rfl
theorem int_mem {l:List Int} {i:Nat} (h:i < l.length):l.getD i 0 ∈ l:=by
 rw [List.getD_eq_getElem?_getD,List.getElem?_eq_getElem h];exact List.getElem_mem h
theorem c49 (word:List UInt8) (l:List Int) (lb:Nat) (bs:List UInt8) (h0 h:AH) (hgl:h.gl=gT) (hB:BdZ h0 h lb bs) (hn:NumOk l) (hb:bs.length≤1000000000) (hw:word.length≤1000) :
  ACalls Tryd.prog 49 [.str word,.lst 1 (l.map iv),.gptr lb 0] h (fun v h'=>v=.tup []∧BdZ h0 h' lb (bs ++ rowT word l)∧h'.at_=h.at_∧h.clk≤h'.clk∧h'.gl=h.gl):=by
 obtain ⟨hn1,hn2⟩:=hn
 have hB0:BdZ h0 (h.tick (h.clk+1)) lb bs:=hB
 have hlen:∀ i,(numsT (l.take i)).length≤22000000:=fun i=>by
  have:=numsT_len (l:=l.take i) (fun x hx=>hn2 x (List.mem_of_mem_take hx))
  rw [List.length_take] at this
  omega
 refine ACalls.ofS tab Tryd.call49 Tryd.func49 rfl (fi:=⟨21,[],[],none,[]⟩) rfl rfl (Nat.le_of_ble_eq_true rfl) ?_
 unfold startA
 try simp only[go_sem]
 refine asem_awp (fi:=⟨21,[],[],none,[]⟩) tab mixed (by decide) ?_
 repeat' (first|refine st_seq_reg rfl (by first|(simp only[go_sem];rfl)|rfl) (by first|(simp only[go_sem];rfl)|rfl) ?_|refine st_reg rfl (by first|(simp only[go_sem];rfl)|rfl) (by first|(simp only[go_sem];rfl)|rfl) ?_|refine st_op ?_|refine st_det rfl (by simp (disch:=omega) only[go_sem,wr_i64];rfl) ?_|(refine st_callf rfl rfl (c50 hB0 (s:=word) (by omega)) ?_;rintro v' h1 ⟨rfl,hB1,ha1,hk1,hg1⟩)|refine st_condT rfl ?_|refine st_condF rfl ?_|(refine st_condS rfl ?_ ?_ <;> intro hg <;> (try simp only[dcT,dcF,bnT,bnF] at hg))|refine st_nil ?_|refine st_tN ?_|refine st_seq ?_|refine st_block ?_|refine st_skip ?_|refine st_exit ?_|refine st_ret ?_|refine st_tE ?_|refine st_tR ?_|refine st_bN ?_|refine st_bR ?_|refine st_bH ?_|refine st_bM rfl ?_)
 have hgl1:h1.gl=gT:=hg1.trans hgl
 repeat' (first|refine st_seq_reg rfl (by first|(simp only[go_sem,Lm];rfl)|rfl) (by first|(simp only[go_sem,Lm];rfl)|rfl) ?_|refine st_reg rfl (by first|(simp only[go_sem,Lm];rfl)|rfl) (by first|(simp only[go_sem,Lm];rfl)|rfl) ?_|refine st_op ?_|refine st_det rfl (by simp (disch:=omega) only[go_sem,wr_i64,Lm];rfl) ?_|refine st_condT rfl ?_|refine st_condF rfl ?_|(refine st_condS rfl ?_ ?_ <;> intro hg <;> (try simp only[dcT,dcF,bnT,bnF] at hg))|refine st_nil ?_|refine st_tN ?_|refine st_seq ?_|refine st_block ?_|refine st_skip ?_|refine st_exit ?_|refine st_ret ?_|refine st_tE ?_|refine st_tR ?_|refine st_bN ?_|refine st_bR ?_|refine st_bH ?_|refine st_bM rfl ?_)
 refine st_loopH (α:=Nat × AH) tab mixed [] [] (by repeat (first|exact trivial|refine ⟨rfl,?_⟩)) [] [] (by repeat (first|exact trivial|refine ⟨rfl,?_⟩)) (fun a=>[(11,.int .i64 (a.1:Nat))]) [(0,_),(1,_),(2,_),(9,_),(10,_)] (fun _=>[]) [] (fun a=>a.2) (fun a=>a.1≤l.length∧BdZ h0 a.2 lb (bs ++ word ++ numsT (l.take a.1))∧a.2.at_=h.at_∧h.clk≤a.2.clk∧a.2.gl=gT) (fun a=>l.length - a.1) (by decide) (0,_) (by exact ⟨Nat.zero_le _,by show BdZ h0 h1 lb _;simpa [numsT] using hB1,ha1,by simp only[go_sem] at hk1 ⊢;omega,hgl1⟩) (by (try simp only[go_sem]);repeat' (first|exact trivial|refine And.intro ?_ ?_|rfl|(simp (disch:=omega) only[go_sem,if_yes,if_no,if_no];rfl)|(simp (disch:=omega) only[go_sem,if_yes,if_no,if_no]))) (by (try simp only[go_sem]);repeat' (first|exact trivial|refine And.intro ?_ ?_|rfl|(simp (disch:=omega) only[go_sem,if_yes,if_no,if_no];rfl)|(simp (disch:=omega) only[go_sem,if_yes,if_no,if_no]))) (HOld.refl _) ?_
 rintro ⟨i,g2⟩ c2 ⟨hi,hB2,ha2,hk2,hg2⟩ hc2
 dsimp only at hi hB2 ha2 hk2 hg2 hc2
 simp only[go_sem]
 by_cases hil:i < l.length
 case neg =>
  obtain rfl:i=l.length:=by omega
  have hB3:BdZ h0 (g2.tick (c2+1+1)) lb (bs ++ word ++ numsT l):=by rw [List.take_length] at hB2;exact hB2
  have hlt:=hlen l.length
  rw [List.take_length] at hlt
  repeat' (first|refine st_seq_reg rfl (by first|(simp only[go_sem,Lm];rfl)|rfl) (by first|(simp only[go_sem,Lm];rfl)|rfl) ?_|refine st_reg rfl (by first|(simp only[go_sem,Lm];rfl)|rfl) (by first|(simp only[go_sem,Lm];rfl)|rfl) ?_|refine st_op ?_|refine st_det rfl (by simp (disch:=omega) only[go_sem,wr_i64,Lm];rfl) ?_|(refine st_callf rfl rfl (c52 10 hB3 (by simp only[List.length_append];omega)) ?_;rintro v' h2 ⟨rfl,hB4,ha4,hk4,hg4⟩)|refine st_condT rfl ?_|refine st_condF rfl ?_|(refine st_condS rfl ?_ ?_ <;> intro hg <;> (try simp only[dcT,dcF,bnT,bnF] at hg))|refine st_nil ?_|refine st_tN ?_|refine st_seq ?_|refine st_block ?_|refine st_skip ?_|refine st_exit ?_|refine st_ret ?_|refine st_tE ?_|refine st_tR ?_|refine st_bN ?_|refine st_bR ?_|refine st_bH ?_|refine st_bM rfl ?_)
  all_goals try (exfalso;omega)
  simp (disch:=omega) only[AEnd,Tryd.results49,aresK,fin,go_sem,implies_true,true_and,and_true,List.reverse_cons,List.reverse_nil]
  refine ⟨?_,ha4.trans ha2,?_,hg4.trans (hg2.trans hgl.symm)⟩
  ·show BdZ h0 h2 lb _
   have e:bs ++ rowT word l=bs ++ word ++ numsT l ++ [10]:=by unfold rowT;simp [List.append_assoc]
   rw [e];exact hB4
  ·show h.clk≤h2.clk
   have:h2.clk=c2+1+1:=hk4
   omega
 have hx:=hn2 _ (int_mem hil)
 have hit:=itoa_length_le _ hx.1 hx.2
 have hB3:∀ n,BdZ h0 (g2.tick n) lb (bs ++ word ++ numsT (l.take i)):=fun _=>hB2
 have hlt:=hlen i
 repeat' (first|refine st_seq_reg rfl (by first|(simp only[go_sem,Lm,iv_getD hil];rfl)|rfl) (by first|(simp only[go_sem,Lm,iv_getD hil];rfl)|rfl) ?_|refine st_reg rfl (by first|(simp only[go_sem,Lm,iv_getD hil];rfl)|rfl) (by first|(simp only[go_sem,Lm,iv_getD hil];rfl)|rfl) ?_|refine st_op ?_|refine st_det rfl (by simp (disch:=omega) only[go_sem,wr_i64,Lm,iv_getD hil];rfl) ?_|(refine st_pureGE rfl rfl (c51 (l.getD i 0) hx.1 hx.2) (by exact hg2) (by rfl) (by intro n;rfl) ?_;intro n hn)|(refine st_callf rfl rfl (c50 (hB3 _) (s:=32 :: itoa (l.getD i 0)) (by simp only[List.length_append,List.length_cons];omega)) ?_;rintro v' h2 ⟨rfl,hB4,ha4,hk4,hg4⟩)|refine st_condT rfl ?_|refine st_condF rfl ?_|(refine st_condS rfl ?_ ?_ <;> intro hg <;> (try simp only[dcT,dcF,bnT,bnF] at hg))|refine st_nil ?_|refine st_tN ?_|refine st_seq ?_|refine st_block ?_|refine st_skip ?_|refine st_exit ?_|refine st_ret ?_|refine st_tE ?_|refine st_tR ?_|refine st_bN ?_|refine st_bR ?_|refine st_bH ?_|refine st_bM rfl ?_)
 all_goals try (exfalso;omega)
 have hB5:BdZ h0 h2 lb (bs ++ word ++ numsT (l.take (i+1))):=by rw [numsT_take hil,← List.append_assoc];exact hB4
 refine ⟨(i+1,_),(by exact ⟨by show i+1≤l.length;omega,hB5,ha4.trans ha2,by (have e4:h2.clk=n:=hk4;have e5:c2≤n:=Nat.le_trans (Nat.le_add_right _ 3) hn;try simp only[go_sem];omega),hg4.trans hg2⟩),(by show l.length - (i+1) < l.length - i;omega),(by repeat' (first|exact trivial|refine And.intro ?_ ?_|rfl|(simp (disch:=omega) only[go_sem,if_yes,if_no,if_no];rfl)|(simp (disch:=omega) only[go_sem,if_yes,if_no,if_no]))),(by repeat' (first|exact trivial|refine And.intro ?_ ?_|rfl|(simp (disch:=omega) only[go_sem,if_yes,if_no,if_no];rfl)|(simp (disch:=omega) only[go_sem,if_yes,if_no,if_no]))),rfl,HOld.refl _⟩
end Go.Proofs.YthpkmcjiobnpgaaDoor

namespace Go.Av
theorem VLes.mid {pre post:List AV} {v v':AV} (h:VLe v v'):VLes (pre ++ v :: post) (pre ++ v' :: post):=by
 induction pre with
 | nil=>simp only[List.nil_append,VLes];exact ⟨_,_,rfl,h,VLes.refl _⟩
 | cons x pre ih=>simp only[List.cons_append,VLes];exact ⟨_,_,rfl,VLe.refl _,ih⟩
theorem frzs_app (b:Bid) (k:Blk):∀ (l r:List AV),frzs b k (l ++ r)=frzs b k l ++ frzs b k r
 | [],r=>by simp only[List.nil_append,frzs]
 | x :: l,r=>by simp only[List.cons_append,frzs,frzs_app b k l r]
end Go.Av
namespace Go.Av
variable {P:Program}
theorem ASem.cutWg {r:Option Nat} {n:Nat} {code:Code} {Q:Exit→AS→Prop} {T:Nat→AV} {B:Bid→Option (List AV)} {M:List Nat} {H:AH} (id:Bid) (pre post:List AV) (v:AV) (z:Nat) (l:List (List AV)) {h0:Nat} (hB:B id=some (pre ++ v :: post)) (hS:SlA h0 H v z l)
  (hst:∀ b m,v=.slc b z 0 m→frzs b ⟨z,l⟩ pre=pre∧frzs b ⟨z,l⟩ post=post)
  (h:∀ H',(∀ b',(∀ m,v ≠ .slc b' z 0 m)→H'.at_ b'=H.at_ b')→H'.clk=H.clk→H'.lp=H.lp→H'.gl=H.gl→ASem P r n code Q ⟨T,upd B id (some (pre ++ .lst z l :: post)),M,H'⟩):ASem P r n code Q ⟨T,B,M,H⟩:=by
 refine ASem.cutXg id (fun b=>∃ m,v=.slc b z 0 m) (cs':=pre ++ .lst z l :: post) hB ?_ fun H' h1 h2 h3 h4=>h H' (fun b' hb'=>h1 b' fun ⟨m,e⟩=>hb' m e) h2 h3 h4
 rcases hS with ⟨rfl,rfl⟩|⟨b1,rfl,h2,h3,h4⟩
 ·exact .inl ⟨VLes.pre (VLe.nils z),fun hall=>by simpa [AV.cell] using hall⟩
 ·obtain ⟨e1,e2⟩:=hst b1 _ rfl
  refine .inr ⟨b1,_,h2,?_,_,rfl⟩
  rw [frzs_app,e1]
  simp only[frzs,e2]
  rw [frz_lst]
def Dis (z z':Nat) (v v':AV):Prop:=∀ b m m',v=.slc b z 0 m→v'=.slc b z' 0 m'→False
theorem Dis.frz {z z':Nat} {v v':AV} {h0:Nat} {g:AH} {l':List (List AV)} (hd:Dis z z' v v') (hS:SlA h0 g v' z' l'):∀ b m k,v=.slc b z 0 m→frz b k v'=v':=by
 intro b m k e
 rcases hS with ⟨rfl,_⟩|⟨b2,rfl,_⟩
 ·rfl
 ·have hne:¬ b2=b:=fun q=>hd b m _ e (by rw [q])
  simp only[Av.frz,if_neg (fun q:b2=b∧_=>hne q.1)]
end Go.Av
namespace Go.Txt
open Go.Lib
end Go.Txt

namespace Go.Proofs.YthpkmcjiobnpgaaDoor
open Go.Av Go.Txt Go.Lib
theorem itoa_nat (n:Nat):itoa (n:Int)=decDigits n:=by
 unfold itoa
 rw [if_neg (by omega)]
 simp
theorem itoa_nn {x:Int} (h:0≤x):itoa x=decDigits x.toNat:=by
 have:=itoa_nat x.toNat
 rwa [Int.toNat_of_nonneg h] at this
theorem dec_len:∀ (k u:Nat),u < 10 ^ (k+1)→(decDigits u).length≤k+1
 | 0,u,h=>by rw [dS (by simpa using h)];simp
 | k+1,u,h=>by
  by_cases h1:u < 10
  ·rw [dS h1];simp
  ·rw [dB h1,List.length_append,List.length_singleton]
   have:=dec_len k (u / 10) (by rw [Nat.pow_succ] at h;omega)
   omega
end Go.Proofs.YthpkmcjiobnpgaaDoor

namespace Go.Proofs.YthpkmcjiobnpgaaDoor
open Go.Av
attribute [local irreducible] thenA blockA awp awpOps awpD awp1
attribute [local go_sem_proc] Nat.reduceAdd Nat.reduceMul Nat.reduceEqDiff Nat.reduceBEq Nat.reduceLeDiff
attribute [local go_sem_proc ↓] reduceIte
attribute [local go_sem] if_yes if_no
set_option maxHeartbeats 8000000
set_option maxRecDepth 20000
def loadsE (f:Fl):List Ld→Int
 | []=>0
 | x :: l=>if loadE f x ≠ 0 then loadE f x else loadsE f l
def chkE (f:Fl):Int :=
 if ¬ (1≤f.len∧f.len≤3000) then 2 else if ¬ (1≤f.wid∧f.wid≤1000) then 2 else if ¬ (0≤f.front∧f.front≤f.len∧0≤f.rear∧f.rear≤f.len) then 2
 else if f.front ≥ f.rear then 9 else if ¬ (0≤f.turn∧f.turn≤20000) then 2 else if ¬ (0≤f.kilos∧f.kilos≤100000) then 2 else if ¬ (0≤f.mid∧f.mid≤f.len) then 2
 else if ¬ (0≤f.high∧f.high≤2000) then 2 else if (f.loads.length:Int) > 20 then 5 else loadsE f f.loads
theorem c6 (f:Fl):Pure Tryd.prog 6 [f.av] (fun v=>v=.int .i64 (chkE f)):=by
 intro h
 refine ACalls.forget (ACalls.of tab mixed Tryd.call6 Tryd.func6 rfl (fi:=⟨74,[4],[1,9,14,23,35,40,47,52],none,[]⟩) rfl rfl (Nat.le_of_ble_eq_true rfl) (by decide) ?_)
 unfold startA
 try simp only[go_sem]
 repeat' (first|refine st_seq_reg rfl (by first|(simp only[go_sem];rfl)|rfl) (by first|(simp only[go_sem];rfl)|rfl) ?_|refine st_reg rfl (by first|(simp only[go_sem];rfl)|rfl) (by first|(simp only[go_sem];rfl)|rfl) ?_|refine st_op ?_|refine st_det rfl (by simp (disch:=omega) only[go_sem,wr_i64];rfl) ?_|refine st_loc rfl (by simp (disch:=omega) only[go_sem,wr_i64];rfl) ?_|refine st_heap rfl (by simp (disch:=omega) only[go_sem,wr_i64];rfl) ?_|refine st_store (by simp (disch:=omega) only[go_sem,wr_i64];rfl) ?_|(refine st_pureE (by first|(simp (disch:=omega) only[go_sem];rfl)|rfl) rfl (c20a _ _ _) (by first|(simp only[go_sem];rfl)|rfl) (by intro n;first|(simp (disch:=omega) only[go_sem];rfl)|rfl) ?_;intro n hn)|(refine st_pureE (by first|(simp (disch:=omega) only[go_sem];rfl)|rfl) rfl (c20b _ _ _ _) (by first|(simp only[go_sem];rfl)|rfl) (by intro n;first|(simp (disch:=omega) only[go_sem];rfl)|rfl) ?_;intro n hn)|refine st_condT rfl ?_|refine st_condF rfl ?_|(refine st_condS rfl ?_ ?_ <;> intro hg <;> (try simp only[dcT,dcF,bnT,bnF] at hg))|refine st_nil ?_|refine st_tN ?_|refine st_seq ?_|refine st_block ?_|refine st_skip ?_|refine st_exit ?_|refine st_ret ?_|refine st_tE ?_|refine st_tR ?_|refine st_bN ?_|refine st_bR ?_|refine st_bH ?_|refine st_bM rfl ?_)
 case' refine_2.refine_2.refine_2.refine_2.refine_2.refine_2.refine_2.refine_2.refine_2 =>
  refine st_loopC (α:=Nat) tab mixed [] [] (by repeat (first|exact trivial|refine ⟨rfl,?_⟩)) [] [] (by repeat (first|exact trivial|refine ⟨rfl,?_⟩)) (fun i=>[(63,.int .i64 i)]) [(1,_),(2,_),(61,_),(62,_)] (fun _=>[]) [] (fun i=>i≤f.loads.length∧loadsE f (f.loads.drop i)=loadsE f f.loads) (fun i=>f.loads.length - i) (by decide) 0 ⟨by omega,rfl⟩ (by (try simp only[go_sem]);repeat' (first|exact trivial|refine And.intro ?_ ?_|rfl|(simp (disch:=omega) only[go_sem,if_yes,if_no,if_no];rfl)|(simp (disch:=omega) only[go_sem,if_yes,if_no,if_no]))) (by (try simp only[go_sem]);repeat' (first|exact trivial|refine And.intro ?_ ?_|rfl|(simp (disch:=omega) only[go_sem,if_yes,if_no,if_no];rfl)|(simp (disch:=omega) only[go_sem,if_yes,if_no,if_no]))) (by first|(simp only[go_sem];rfl)|rfl) (by intro n;simp only[go_sem];rfl) ?_
  rintro i c ⟨hi',hall⟩ hc
  simp only[go_sem]
  repeat' (first|refine st_seq_reg rfl (by first|(simp only[go_sem];rfl)|rfl) (by first|(simp only[go_sem];rfl)|rfl) ?_|refine st_reg rfl (by first|(simp only[go_sem];rfl)|rfl) (by first|(simp only[go_sem];rfl)|rfl) ?_|refine st_op ?_|refine st_det rfl (by simp (disch:=omega) only[go_sem,wr_i64];rfl) ?_|refine st_loc rfl (by simp (disch:=omega) only[go_sem,wr_i64];rfl) ?_|refine st_heap rfl (by simp (disch:=omega) only[go_sem,wr_i64];rfl) ?_|refine st_store (by simp (disch:=omega) only[go_sem,wr_i64];rfl) ?_|(refine st_pureE (by first|(simp (disch:=omega) only[go_sem];rfl)|rfl) rfl (c21 f (ld f.loads i)) (by first|(simp only[go_sem];rfl)|rfl) (by intro n;first|(simp (disch:=omega) only[go_sem];rfl)|rfl) ?_;intro n hn)|refine st_condT rfl ?_|refine st_condF rfl ?_|(refine st_condS rfl ?_ ?_ <;> intro hg <;> (try simp only[dcT,dcF,bnT,bnF] at hg))|refine st_nil ?_|refine st_tN ?_|refine st_seq ?_|refine st_block ?_|refine st_skip ?_|refine st_exit ?_|refine st_ret ?_|refine st_tE ?_|refine st_tR ?_|refine st_bN ?_|refine st_bR ?_|refine st_bH ?_|refine st_bM rfl ?_)
  ·simp (disch:=omega) only[AEnd,Tryd.results6,aresK,fin,go_sem,implies_true,true_and,and_true,List.reverse_cons,List.reverse_nil]
   rw [drop_ld (by omega)] at hall
   rw [loadsE,if_pos (by assumption)] at hall
   simp [chkE] <;> omega
  ·refine ⟨i+1,⟨by omega,by rw [drop_ld (by omega),loadsE,if_neg (by assumption)] at hall;exact hall⟩,by omega,(by repeat' (first|exact trivial|refine And.intro ?_ ?_|rfl|(simp (disch:=omega) only[go_sem,if_yes,if_no,if_no];rfl)|(simp (disch:=omega) only[go_sem,if_yes,if_no,if_no]))),(by repeat' (first|exact trivial|refine And.intro ?_ ?_|rfl|(simp (disch:=omega) only[go_sem,if_yes,if_no,if_no];rfl)|(simp (disch:=omega) only[go_sem,if_yes,if_no,if_no]))),rfl,(by first|exact HOld.of _ (by omega)|exact HOld.put _ _ _ (by omega))⟩
  ·simp (disch:=omega) only[AEnd,Tryd.results6,aresK,fin,go_sem,implies_true,true_and,and_true,List.reverse_cons,List.reverse_nil]
   rw [List.drop_eq_nil_of_le (by omega),loadsE] at hall
   simp [chkE] <;> omega
 all_goals
  simp (disch:=omega) only[AEnd,Tryd.results6,aresK,fin,go_sem,implies_true,true_and,and_true,List.reverse_cons,List.reverse_nil]
  simp [chkE] <;> omega
end Go.Proofs.YthpkmcjiobnpgaaDoor

namespace Go.Proofs.YthpkmcjiobnpgaaDoor
open Go.Av Go.Txt Go.Lib
set_option maxRecDepth 20000
def wFloat:List UInt8:=[102,108,111,97,116]
def wLoad:List UInt8:=[108,111,97,100]
def wEnd:List UInt8:=[101,110,100]
def flN (f:Fl):List Int:=[f.len,f.wid,f.front,f.rear,f.turn,f.kilos,f.mid,f.high]
def ldN (x:Ld):List Int:=[x.at_,x.lo,x.hi,x.tlo,x.thi,x.kind,x.watts]
def ldT (x:Ld):List UInt8:=rowT wLoad (ldN x)
def cardT (f:Fl):List UInt8:=rowT wFloat (flN f) ++ f.loads.flatMap ldT ++ rowT wEnd [(f.loads.length:Int)]
def wrV (f:Fl):AV:=if chkE f=0 then .tup [.str (cardT f),.int .i64 0] else .tup [.str [],.int .i64 (chkE f)]
def Fl.more (f:Fl) (l:List Ld):Fl:={ f with loads:=f.loads ++ l }
def Sm (l:List Int):Prop:=∀ x ∈ l,0≤x∧x < 10000000
theorem loadE_bd {f:Fl} {x:Ld} (h:loadE f x=0) (h1:0≤f.front) (h2:f.rear≤3000):Sm (ldN x):=by
 unfold loadE spanE at h
 intro y hy
 simp only[ldN,List.mem_cons,List.not_mem_nil,or_false] at hy
 repeat' split at h
 all_goals try (exfalso;omega)
 all_goals rcases hy with rfl|rfl|rfl|rfl|rfl|rfl|rfl <;> omega
theorem loadsE_mem {f:Fl}:∀ {l:List Ld},loadsE f l=0→∀ x ∈ l,loadE f x=0
 | [],_,x,hx=>by cases hx
 | y :: l,h,x,hx=>by
  unfold loadsE at h
  split at h
  ·rename_i h1;exact absurd h h1
  ·rename_i h1
   rcases List.mem_cons.1 hx with rfl|hx
   ·omega
   ·exact loadsE_mem h x hx
theorem chk_bd {f:Fl} (h:chkE f=0):Sm (flN f)∧f.loads.length≤20∧∀ y ∈ f.loads,Sm (ldN y):=by
 unfold chkE at h
 repeat' split at h
 all_goals try (exfalso;omega)
 refine ⟨?_,by omega,fun y hy=>loadE_bd (loadsE_mem h y hy) (by omega) (by omega)⟩
 intro y hy
 simp only[flN,List.mem_cons,List.not_mem_nil,or_false] at hy
 rcases hy with rfl|rfl|rfl|rfl|rfl|rfl|rfl|rfl <;> omega
theorem Sm.dec {l:List Int} (h:Sm l):∀ x ∈ l,0≤x∧(decDigits x.toNat).length≤7:=fun x hx=>⟨(h x hx).1,dec_len 6 _ (by have:=h x hx;omega)⟩
theorem numsT_sm:∀ {l:List Int},Sm l→(numsT l).length≤8 * l.length
 | [],_=>by simp [numsT]
 | x :: l,h=>by
  have h1:=Sm.dec h x (by simp)
  have h2:=numsT_sm (l:=l) (fun y hy=>h y (by simp [hy]))
  unfold numsT at h2 ⊢
  rw [List.flatMap_cons,List.length_append,List.length_cons,List.length_cons,itoa_nn h1.1]
  omega
theorem rowT_sm {w:List UInt8} {l:List Int} (h:Sm l):(rowT w l).length≤w.length+8 * l.length+1:=by
 have:=numsT_sm h
 unfold rowT
 simp only[List.length_append,List.length_cons,List.length_nil]
 omega
theorem flat_take {α:Type} {f:α→List UInt8} {l:List α} {d:α} {i:Nat} (h:i < l.length):(l.take (i+1)).flatMap f=(l.take i).flatMap f ++ f (l.getD i d):=by
 rw [List.take_add_one,List.flatMap_append,List.getElem?_eq_getElem h,List.getD_eq_getElem?_getD,List.getElem?_eq_getElem h]
 simp
theorem flat_len {α:Type} {f:α→List UInt8} {n:Nat} {l:List α} (h:∀ x ∈ l,(f x).length≤n):(l.flatMap f).length≤n * l.length:=by
 induction l with
 | nil=>simp
 | cons x l ih =>
  have h1:=h x (by simp)
  have h2:=ih (fun y hy=>h y (by simp [hy]))
  rw [List.flatMap_cons,List.length_append,List.length_cons,Nat.mul_succ]
  omega
theorem ldT_len {x:Ld} (h:Sm (ldN x)):(ldT x).length≤70:=by
 have:=rowT_sm (w:=wLoad) h
 have e:wLoad.length=4:=rfl
 have e2:(ldN x).length=7:=rfl
 unfold ldT;omega
theorem Sm.ok {l:List Int} (h:Sm l) (hl:l.length≤1000):NumOk l:=⟨by omega,fun x hx=>by have:=h x hx;omega⟩
theorem sm_len {n:Nat} (h:n≤20):Sm [(n:Int)]:=by intro x hx;simp at hx;omega
end Go.Proofs.YthpkmcjiobnpgaaDoor
