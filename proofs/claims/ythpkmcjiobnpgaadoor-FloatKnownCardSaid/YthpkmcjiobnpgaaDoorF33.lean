/- Contracts of functions that the claim reaches: what each call gives, told in our own logic. Conditions: those of each theorem. -/
import Derived.Test.YthpkmcjiobnpgaaDoorF8
import Derived.Test.YthpkmcjiobnpgaaDoorBaseC
import Derived.Test.YthpkmcjiobnpgaaDoorF12
set_option linter.all false
set_option linter.unusedSimpArgs false
set_option linter.unusedVariables false
namespace Go.Proofs.YthpkmcjiobnpgaaDoor
open Go.Av
attribute [local irreducible] thenA blockA awp awpOps awpD awp1
attribute [local go_sem_proc] Nat.reduceAdd Nat.reduceMul Nat.reduceEqDiff Nat.reduceBEq Nat.reduceLeDiff
attribute [local go_sem_proc ↓] reduceIte
attribute [local go_sem] if_yes if_no
set_option maxHeartbeats 8000000
set_option maxRecDepth 20000
def downI (n d:Int):Int:=if n.tmod d < 0 then n.tdiv d - 1 else n.tdiv d
def upI (n d:Int):Int:=-(downI (-n) d)
theorem tdiv_bd {n d B:Int} (hn:-B≤n∧n≤B) (hd:1≤d):-B≤n.tdiv d∧n.tdiv d≤B:=by
 have h:(n.tdiv d).natAbs=n.natAbs / d.natAbs:=Int.natAbs_tdiv n d
 have h2:n.natAbs / d.natAbs≤n.natAbs:=Nat.div_le_self _ _
 omega
theorem c31 (n d:Int) (hn:-100000000000≤n∧n≤100000000000) (hd:1≤d∧d≤100000):Pure Tryd.prog 31 [.int .i64 n,.int .i64 d] (fun v=>v=.int .i64 (downI n d)):=by
 have hb:=tdiv_bd hn hd.1
 intro h
 refine ACalls.forget (ACalls.of tab mixed Tryd.call31 Tryd.func31 rfl (fi:=⟨16,[],[],none,[]⟩) rfl rfl (Nat.le_of_ble_eq_true rfl) (by decide) ?_)
 unfold startA
 repeat' (first|refine st_seq_reg rfl (by first|(simp only[go_sem];rfl)|rfl) (by first|(simp only[go_sem];rfl)|rfl) ?_|refine st_reg rfl (by first|(simp only[go_sem];rfl)|rfl) (by first|(simp only[go_sem];rfl)|rfl) ?_|refine st_op ?_|refine st_det rfl (by simp (disch:=omega) only[go_sem,wr_i64];rfl) ?_|refine st_condT rfl ?_|refine st_condF rfl ?_|(refine st_condS rfl ?_ ?_ <;> intro hg <;> (try simp only[dcT,dcF,bnT,bnF] at hg))|refine st_nil ?_|refine st_tN ?_|refine st_seq ?_|refine st_skip ?_|refine st_ret ?_|refine st_tE ?_|refine st_tR ?_)
 all_goals
  simp (disch:=omega) only[AEnd,Tryd.results31,aresK,fin,go_sem,implies_true,true_and,and_true,List.reverse_cons,List.reverse_nil]
  all_goals simp [downI, *]
theorem c33 (n d:Int) (hn:-100000000000≤n∧n≤100000000000) (hd:1≤d∧d≤100000):Pure Tryd.prog 33 [.int .i64 n,.int .i64 d] (fun v=>v=.int .i64 (upI n d)):=by
 have hb:=tdiv_bd (n:=0 - n) (B:=100000000000) (by omega) hd.1
 have hc:-200000000000≤downI (0 - n) d∧downI (0 - n) d≤200000000000:=by unfold downI;split <;> omega
 intro h
 refine ACalls.forget (ACalls.of tab mixed Tryd.call33 Tryd.func33 rfl (fi:=⟨10,[],[],none,[]⟩) rfl rfl (Nat.le_of_ble_eq_true rfl) (by decide) ?_)
 unfold startA
 repeat' (first|refine st_seq_reg rfl (by first|(simp only[go_sem];rfl)|rfl) (by first|(simp only[go_sem];rfl)|rfl) ?_|refine st_reg rfl (by first|(simp only[go_sem];rfl)|rfl) (by first|(simp only[go_sem];rfl)|rfl) ?_|refine st_op ?_|refine st_det rfl (by simp (disch:=omega) only[go_sem,wr_i64];rfl) ?_|(refine st_pureE (by first|(simp (disch:=omega) only[go_sem];rfl)|rfl) rfl (c31 (0 - n) d (by omega) hd) (by first|(simp only[go_sem];rfl)|rfl) (by intro n;first|(simp (disch:=omega) only[go_sem];rfl)|rfl) ?_;intro n hn)|refine st_nil ?_|refine st_tN ?_|refine st_seq ?_|refine st_skip ?_|refine st_ret ?_|refine st_tE ?_|refine st_tR ?_)
 all_goals
  simp (disch:=omega) only[AEnd,Tryd.results33,aresK,fin,go_sem,implies_true,true_and,and_true,List.reverse_cons,List.reverse_nil]
  all_goals simp [upI]
theorem w_all {arm:Int→Int} {f:Fl} {p m:Int} (hf:FlOk f) (hp:0≤p∧p≤3000) (hm:0≤m∧m≤100000) (hb:∀ a,0≤a→a≤3000→-3000≤arm a∧arm a≤3000) :
  (-100000000000≤wL arm f p m∧wL arm f p m≤100000000000)∧(-100000000000≤wH arm f p m∧wH arm f p m≤100000000000):=by
 have h1:=hf.len;have h2:=hf.mid;have h3:=hf.kilos;have h4:=hf.loads.1
 have m1:=mul_bd h3 (hb f.mid (by omega) (by omega))
 have m2:=mul_bd hm (hb p (by omega) (by omega))
 have:=w_bd (s:=f.kilos * arm f.mid+m * arm p) hf.loads.2 hb f.loads.length (Nat.le_refl _)
 rw [List.take_length] at this
 unfold wL wH
 omega
theorem front_bd {f:Fl} (hf:FlOk f):∀ a,0≤a→a≤3000→-3000≤frontA f a∧frontA f a≤3000:=by
 have h1:=hf.len;have h2:=hf.axles
 intro a _ _;unfold frontA;omega
theorem rear_bd {f:Fl} (hf:FlOk f):∀ a,0≤a→a≤3000→-3000≤rearA f a∧rearA f a≤3000:=by
 have h1:=hf.len;have h2:=hf.axles
 intro a _ _;unfold rearA;omega
theorem c30 (f:Fl) (p m lo hi:Int) (hf:FlOk f) (hl:-100000000000≤lo∧lo≤100000000000) (hh:-100000000000≤hi∧hi≤100000000000) :
  Pure Tryd.prog 30 [.agg [.int .i64 lo,.int .i64 hi],.iptr (Tk.av f p m).cells 0] (fun v=>v=.agg [.int .i64 (downI lo (f.rear - f.front)),.int .i64 (upI hi (f.rear - f.front))]):=by
 have h1:=hf.len;have h2:=hf.axles
 intro h
 refine ACalls.forget (ACalls.of tab mixed Tryd.call30 Tryd.func30 rfl (fi:=⟨15,[3],[2],none,[(1,[0,1,0,4,15,0,32,0,159,511,1023,2047],[(0,false),(1,true),(2,true),(5,false),(6,true),(7,true),(3,false),(4,false),(8,false),(9,false),(10,false),(11,false)])]⟩) rfl rfl (Nat.le_of_ble_eq_true rfl) (by decide) ?_)
 unfold startA
 simp only[go_sem]
 repeat' (first|refine st_seq_reg rfl (by first|(simp only[go_sem];rfl)|rfl) (by first|(simp only[go_sem];rfl)|rfl) ?_|refine st_reg rfl (by first|(simp only[go_sem];rfl)|rfl) (by first|(simp only[go_sem];rfl)|rfl) ?_|refine st_seq_draw rfl (by first|(simp only[go_sem];rfl)|rfl) (by first|(simp only[go_sem];rfl)|rfl) ?_|refine st_draw rfl (by first|(simp only[go_sem];rfl)|rfl) (by first|(simp only[go_sem];rfl)|rfl) ?_|refine st_op ?_|refine st_det rfl (by simp (disch:=omega) only[go_sem,wr_i64];rfl) ?_|refine st_dop rfl ?_|refine st_loc rfl (by simp (disch:=omega) only[go_sem,wr_i64];rfl) ?_|refine st_heap rfl (by simp (disch:=omega) only[go_sem,wr_i64];rfl) ?_|refine st_store (by simp (disch:=omega) only[go_sem,wr_i64];rfl) ?_|(refine st_pureE (by first|(simp (disch:=omega) only[go_sem];rfl)|rfl) rfl (c32 f p m hf) (by first|(simp only[go_sem];rfl)|rfl) (by intro n;first|(simp (disch:=omega) only[go_sem];rfl)|rfl) ?_;intro n hn)|(refine st_pureE (by first|(simp (disch:=omega) only[go_sem];rfl)|rfl) rfl (c31 _ _ hl (by omega)) (by first|(simp only[go_sem];rfl)|rfl) (by intro n;first|(simp (disch:=omega) only[go_sem];rfl)|rfl) ?_;intro n hn)|(refine st_pureE (by first|(simp (disch:=omega) only[go_sem];rfl)|rfl) rfl (c33 _ _ hh (by omega)) (by first|(simp only[go_sem];rfl)|rfl) (by intro n;first|(simp (disch:=omega) only[go_sem];rfl)|rfl) ?_;intro n hn)|refine st_nil ?_|refine st_dnil ?_|refine st_tN ?_|refine st_seq ?_|refine st_skip ?_|refine st_ret ?_|refine st_tE ?_|refine st_tR ?_)
 simp (disch:=omega) only[AEnd,Tryd.results30,aresK,fin,go_sem,implies_true,true_and,and_true,List.reverse_cons,List.reverse_nil]
theorem base_bd' {f:Fl} (hf:FlOk f):1≤f.rear - f.front∧f.rear - f.front≤3000:=by have h1:=hf.len;have h2:=hf.axles;omega
def axV (f:Fl):AV:=if chkE f ≠ 0 then .tup [.agg [.int .i64 0,.int .i64 0],.agg [.int .i64 0,.int .i64 0],.int .i64 (chkE f)] else
 .tup [.agg [.int .i64 (downI (wL (frontA f) f 0 0) (f.rear - f.front)),.int .i64 (upI (wH (frontA f) f 0 0) (f.rear - f.front))],
  .agg [.int .i64 (downI (wL (rearA f) f 0 0) (f.rear - f.front)),.int .i64 (upI (wH (rearA f) f 0 0) (f.rear - f.front))],.int .i64 0]
theorem c15 (f:Fl):Pure Tryd.prog 15 [f.av] (fun v=>v=axV f):=by
 intro h
 refine ACalls.forget ?_
 refine ACalls.ofS tab Tryd.call15 Tryd.func15 rfl (fi:=⟨26,[2,3],[1],none,[(6,[0,0,2,7,0,0,47,127,255,511,1023],[(0,false),(1,true),(4,false),(5,true),(2,false),(3,false),(6,false),(7,false),(8,false),(9,false),(10,false)])]⟩) rfl rfl (Nat.le_of_ble_eq_true rfl) ?_
 unfold startA
 simp only[go_sem]
 refine asem_seq (fi:=⟨26,[2,3],[1],none,[(6,[0,0,2,7,0,0,47,127,255,511,1023],[(0,false),(1,true),(4,false),(5,true),(2,false),(3,false),(6,false),(7,false),(8,false),(9,false),(10,false)])]⟩) tab mixed (by decide) ?_
 repeat' (first|refine st_seq_reg rfl (by first|(simp only[go_sem];rfl)|rfl) (by first|(simp only[go_sem];rfl)|rfl) ?_|refine st_reg rfl (by first|(simp only[go_sem];rfl)|rfl) (by first|(simp only[go_sem];rfl)|rfl) ?_|refine st_seq_draw rfl (by first|(simp only[go_sem];rfl)|rfl) (by first|(simp only[go_sem];rfl)|rfl) ?_|refine st_draw rfl (by first|(simp only[go_sem];rfl)|rfl) (by first|(simp only[go_sem];rfl)|rfl) ?_|refine st_op ?_|refine st_det rfl (by simp (disch:=omega) only[go_sem,wr_i64];rfl) ?_|refine st_dop rfl ?_|refine st_loc rfl (by simp (disch:=omega) only[go_sem,wr_i64];rfl) ?_|refine st_heap rfl (by simp (disch:=omega) only[go_sem,wr_i64];rfl) ?_|refine st_store (by simp (disch:=omega) only[go_sem,wr_i64];rfl) ?_|(refine st_pureE (by first|(simp (disch:=omega) only[go_sem];rfl)|rfl) rfl (c6 f) (by first|(simp only[go_sem];rfl)|rfl) (by intro n;first|(simp (disch:=omega) only[go_sem];rfl)|rfl) ?_;intro n hn)|refine st_condT rfl ?_|refine st_condF rfl ?_|(refine st_condS rfl ?_ ?_ <;> intro hg <;> (try simp only[dcT,dcF,bnT,bnF] at hg))|refine st_nil ?_|refine st_dnil ?_|refine st_tN ?_|refine st_seq ?_|refine st_skip ?_|refine st_ret ?_|refine st_tE ?_|refine st_tR ?_)
 refine asem_seq (fi:=⟨26,[2,3],[1],none,[(6,[0,0,2,7,0,0,47,127,255,511,1023],[(0,false),(1,true),(4,false),(5,true),(2,false),(3,false),(6,false),(7,false),(8,false),(9,false),(10,false)])]⟩) tab mixed (by decide) ?_
 repeat' (first|refine st_seq_reg rfl (by first|(simp only[go_sem];rfl)|rfl) (by first|(simp only[go_sem];rfl)|rfl) ?_|refine st_reg rfl (by first|(simp only[go_sem];rfl)|rfl) (by first|(simp only[go_sem];rfl)|rfl) ?_|refine st_seq_draw rfl (by first|(simp only[go_sem];rfl)|rfl) (by first|(simp only[go_sem];rfl)|rfl) ?_|refine st_draw rfl (by first|(simp only[go_sem];rfl)|rfl) (by first|(simp only[go_sem];rfl)|rfl) ?_|refine st_op ?_|refine st_det rfl (by simp (disch:=omega) only[go_sem,wr_i64];rfl) ?_|refine st_dop rfl ?_|refine st_loc rfl (by simp (disch:=omega) only[go_sem,wr_i64];rfl) ?_|refine st_heap rfl (by simp (disch:=omega) only[go_sem,wr_i64];rfl) ?_|refine st_store (by simp (disch:=omega) only[go_sem,wr_i64];rfl) ?_|(refine st_pureE (by first|(simp (disch:=omega) only[go_sem];rfl)|rfl) rfl (c6 f) (by first|(simp only[go_sem];rfl)|rfl) (by intro n;first|(simp (disch:=omega) only[go_sem];rfl)|rfl) ?_;intro n hn)|refine st_condT rfl ?_|refine st_condF rfl ?_|(refine st_condS rfl ?_ ?_ <;> intro hg <;> (try simp only[dcT,dcF,bnT,bnF] at hg))|refine st_nil ?_|refine st_dnil ?_|refine st_tN ?_|refine st_seq ?_|refine st_skip ?_|refine st_ret ?_|refine st_tE ?_|refine st_tR ?_)
 ·simp (disch:=omega) only[AEnd,Tryd.results15,aresK,fin,go_sem,implies_true,true_and,and_true,List.reverse_cons,List.reverse_nil]
  simp [axV,hg]
 have h0:chkE f=0:=by omega
 have hf:=chkOk h0
 have hb:=base_bd' hf
 have wf:=w_all hf (p:=0) (m:=0) (by omega) (by omega) (front_bd hf)
 have wr':=w_all hf (p:=0) (m:=0) (by omega) (by omega) (rear_bd hf)
 refine asem_seq (fi:=⟨26,[2,3],[1],none,[(6,[0,0,2,7,0,0,47,127,255,511,1023],[(0,false),(1,true),(4,false),(5,true),(2,false),(3,false),(6,false),(7,false),(8,false),(9,false),(10,false)])]⟩) tab mixed (by decide) ?_
 repeat' (first|refine st_seq_reg rfl (by first|(simp only[go_sem];rfl)|rfl) (by first|(simp only[go_sem];rfl)|rfl) ?_|refine st_reg rfl (by first|(simp only[go_sem];rfl)|rfl) (by first|(simp only[go_sem];rfl)|rfl) ?_|refine st_seq_draw rfl (by first|(simp only[go_sem];rfl)|rfl) (by first|(simp only[go_sem];rfl)|rfl) ?_|refine st_draw rfl (by first|(simp only[go_sem];rfl)|rfl) (by first|(simp only[go_sem];rfl)|rfl) ?_|refine st_op ?_|refine st_det rfl (by simp (disch:=omega) only[go_sem,wr_i64];rfl) ?_|refine st_dop rfl ?_|refine st_loc rfl (by simp (disch:=omega) only[go_sem,wr_i64];rfl) ?_|refine st_heap rfl (by simp (disch:=omega) only[go_sem,wr_i64];rfl) ?_|refine st_store (by simp (disch:=omega) only[go_sem,wr_i64];rfl) ?_|refine st_condT rfl ?_|refine st_condF rfl ?_|(refine st_condS rfl ?_ ?_ <;> intro hg <;> (try simp only[dcT,dcF,bnT,bnF] at hg))|refine st_nil ?_|refine st_dnil ?_|refine st_tN ?_|refine st_seq ?_|refine st_skip ?_|refine st_ret ?_|refine st_tE ?_|refine st_tR ?_)
 refine ASem.frz1 6 (b:=(n+1,6)) rfl (by simp only[go_sem,↓reduceIte];rfl) (by exact Nat.zero_lt_one) ?_
 refine asem_awp (fi:=⟨26,[2,3],[1],none,[(6,[0,0,2,7,0,0,47,127,255,511,1023],[(0,false),(1,true),(4,false),(5,true),(2,false),(3,false),(6,false),(7,false),(8,false),(9,false),(10,false)])]⟩) tab mixed (by decide) ?_
 simp only[go_sem]
 repeat' (first|refine st_seq_reg rfl (by first|(simp only[go_sem];rfl)|rfl) (by first|(simp only[go_sem];rfl)|rfl) ?_|refine st_reg rfl (by first|(simp only[go_sem];rfl)|rfl) (by first|(simp only[go_sem];rfl)|rfl) ?_|refine st_seq_draw rfl (by first|(simp only[go_sem];rfl)|rfl) (by first|(simp only[go_sem];rfl)|rfl) ?_|refine st_draw rfl (by first|(simp only[go_sem];rfl)|rfl) (by first|(simp only[go_sem];rfl)|rfl) ?_|refine st_op ?_|refine st_det rfl (by simp (disch:=omega) only[go_sem,wr_i64];rfl) ?_|refine st_dop rfl ?_|refine st_loc rfl (by simp (disch:=omega) only[go_sem,wr_i64];rfl) ?_|refine st_heap rfl (by simp (disch:=omega) only[go_sem,wr_i64];rfl) ?_|refine st_store (by simp (disch:=omega) only[go_sem,wr_i64];rfl) ?_|(refine st_pureE (by first|(simp (disch:=omega) only[go_sem];rfl)|rfl) rfl (c34 f 0 0 hf (by omega) (by omega)) (by first|(simp only[go_sem];rfl)|rfl) (by intro n;first|(simp (disch:=omega) only[go_sem];rfl)|rfl) ?_;intro n hn)|(refine st_pureE (by first|(simp (disch:=omega) only[go_sem];rfl)|rfl) rfl (c35 f 0 0 hf (by omega) (by omega)) (by first|(simp only[go_sem];rfl)|rfl) (by intro n;first|(simp (disch:=omega) only[go_sem];rfl)|rfl) ?_;intro n hn)|(refine st_pureV (by first|(simp only[go_sem];rfl)|rfl) (by first|(simp (disch:=omega) only[go_sem];rfl)|rfl) rfl (c30 f 0 0 _ _ hf wf.1 wf.2) (by first|(simp only[go_sem];rfl)|rfl) (by intro n;first|(simp (disch:=omega) only[go_sem];rfl)|rfl) ?_;intro v n hv hn;subst hv)|(refine st_pureV (by first|(simp only[go_sem];rfl)|rfl) (by first|(simp (disch:=omega) only[go_sem];rfl)|rfl) rfl (c30 f 0 0 _ _ hf wr'.1 wr'.2) (by first|(simp only[go_sem];rfl)|rfl) (by intro n;first|(simp (disch:=omega) only[go_sem];rfl)|rfl) ?_;intro v n hv hn;subst hv)|refine st_condT rfl ?_|refine st_condF rfl ?_|(refine st_condS rfl ?_ ?_ <;> intro hg <;> (try simp only[dcT,dcF,bnT,bnF] at hg))|refine st_nil ?_|refine st_dnil ?_|refine st_tN ?_|refine st_seq ?_|refine st_skip ?_|refine st_ret ?_|refine st_tE ?_|refine st_tR ?_)
 simp (disch:=omega) only[AEnd,Tryd.results15,aresK,fin,go_sem,implies_true,true_and,and_true,List.reverse_cons,List.reverse_nil]
 refine ⟨fun a h1=>?_,by simp [axV,h0]⟩
 rw [if_neg (fun e=>by rw [e] at h1;dsimp only at h1;omega)]
end Go.Proofs.YthpkmcjiobnpgaaDoor

namespace Go.Proofs.YthpkmcjiobnpgaaDoor
open Go.Av
attribute [local irreducible] thenA blockA awp awpOps awpD awp1
attribute [local go_sem_proc] Nat.reduceAdd Nat.reduceMul Nat.reduceEqDiff Nat.reduceBEq Nat.reduceLeDiff
attribute [local go_sem_proc ↓] reduceIte
attribute [local go_sem] if_yes if_no
set_option maxHeartbeats 8000000
set_option maxRecDepth 20000
theorem c9 (a b:Int):Pure Tryd.prog 9 [.int .i64 a,.int .i64 b] (fun v=>v=.agg [.int .i64 a,.int .i64 b]):=by
 intro h
 refine ACalls.forget (ACalls.of tab mixed Tryd.call9 Tryd.func9 rfl (fi:=⟨8,[4],[],none,[]⟩) rfl rfl (Nat.le_of_ble_eq_true rfl) (by decide) ?_)
 unfold startA
 repeat' (first|refine st_seq_reg rfl (by first|(simp only[go_sem];rfl)|rfl) (by first|(simp only[go_sem];rfl)|rfl) ?_|refine st_reg rfl (by first|(simp only[go_sem];rfl)|rfl) (by first|(simp only[go_sem];rfl)|rfl) ?_|refine st_op ?_|refine st_det rfl (by simp (disch:=omega) only[go_sem,wr_i64];rfl) ?_|refine st_loc rfl (by simp (disch:=omega) only[go_sem,wr_i64];rfl) ?_|refine st_heap rfl (by simp (disch:=omega) only[go_sem,wr_i64];rfl) ?_|refine st_store (by simp (disch:=omega) only[go_sem,wr_i64];rfl) ?_|refine st_nil ?_|refine st_tN ?_|refine st_seq ?_|refine st_skip ?_|refine st_ret ?_|refine st_tE ?_|refine st_tR ?_)
 simp (disch:=omega) only[AEnd,Tryd.results9,aresK,fin,go_sem,implies_true,true_and,and_true,List.reverse_cons,List.reverse_nil]
theorem c14 (a:Int):Pure Tryd.prog 14 [.int .i64 a] (fun v=>v=.agg [.int .i64 a,.int .i64 a]):=by
 intro h
 refine ACalls.forget (ACalls.of tab mixed Tryd.call14 Tryd.func14 rfl (fi:=⟨6,[2],[],none,[]⟩) rfl rfl (Nat.le_of_ble_eq_true rfl) (by decide) ?_)
 unfold startA
 repeat' (first|refine st_seq_reg rfl (by first|(simp only[go_sem];rfl)|rfl) (by first|(simp only[go_sem];rfl)|rfl) ?_|refine st_reg rfl (by first|(simp only[go_sem];rfl)|rfl) (by first|(simp only[go_sem];rfl)|rfl) ?_|refine st_op ?_|refine st_det rfl (by simp (disch:=omega) only[go_sem,wr_i64];rfl) ?_|refine st_loc rfl (by simp (disch:=omega) only[go_sem,wr_i64];rfl) ?_|refine st_heap rfl (by simp (disch:=omega) only[go_sem,wr_i64];rfl) ?_|refine st_store (by simp (disch:=omega) only[go_sem,wr_i64];rfl) ?_|(refine st_pureE (by first|(simp (disch:=omega) only[go_sem];rfl)|rfl) rfl (c9 _ _) (by first|(simp only[go_sem];rfl)|rfl) (by intro n;first|(simp (disch:=omega) only[go_sem];rfl)|rfl) ?_;intro n hn)|refine st_nil ?_|refine st_tN ?_|refine st_seq ?_|refine st_skip ?_|refine st_ret ?_|refine st_tE ?_|refine st_tR ?_)
 simp (disch:=omega) only[AEnd,Tryd.results14,aresK,fin,go_sem,implies_true,true_and,and_true,List.reverse_cons,List.reverse_nil]
def swanF (m:Int):Fl:=⟨1000,300,200,800,900,4000,m,400,[⟨300,500,600,450,500,1,0⟩,⟨700,1000,1000,380,380,2,5000⟩,⟨500,100,200,300,350,3,3000⟩,⟨600,50,50,400,520,4,0⟩]⟩
theorem c4:Pure Tryd.prog 4 [] (fun v=>v=(swanF 500).av):=by
 intro h
 refine ACalls.forget (ACalls.of tab mixed Tryd.call4 Tryd.func4 rfl (fi:=⟨15,[0],[13],none,[]⟩) rfl rfl (Nat.le_of_ble_eq_true rfl) (by decide) ?_)
 unfold startA
 repeat' (first|refine st_seq_reg rfl (by first|(simp only[go_sem];rfl)|rfl) (by first|(simp only[go_sem];rfl)|rfl) ?_|refine st_reg rfl (by first|(simp only[go_sem];rfl)|rfl) (by first|(simp only[go_sem];rfl)|rfl) ?_|refine st_op ?_|refine st_det rfl (by simp (disch:=omega) only[go_sem,wr_i64];rfl) ?_|refine st_loc rfl (by simp (disch:=omega) only[go_sem,wr_i64];rfl) ?_|refine st_heap rfl (by simp (disch:=omega) only[go_sem,wr_i64];rfl) ?_|refine st_store (by simp (disch:=omega) only[go_sem,wr_i64];rfl) ?_|(refine st_pureE (by first|(simp (disch:=omega) only[go_sem];rfl)|rfl) rfl (c9 _ _) (by first|(simp only[go_sem];rfl)|rfl) (by intro n;first|(simp (disch:=omega) only[go_sem];rfl)|rfl) ?_;intro n hn)|(refine st_pureE (by first|(simp (disch:=omega) only[go_sem];rfl)|rfl) rfl (c14 _) (by first|(simp only[go_sem];rfl)|rfl) (by intro n;first|(simp (disch:=omega) only[go_sem];rfl)|rfl) ?_;intro n hn)|refine st_nil ?_|refine st_tN ?_|refine st_seq ?_|refine st_skip ?_|refine st_ret ?_|refine st_tE ?_|refine st_tR ?_)
 simp (disch:=omega) only[AEnd,Tryd.results4,aresK,fin,go_sem,implies_true,true_and,and_true,List.reverse_cons,List.reverse_nil]
 rfl
theorem c10 (m:Int):Pure Tryd.prog 10 [.int .i64 m] (fun v=>v=(swanF m).av):=by
 intro h
 refine ACalls.forget (ACalls.of tab mixed Tryd.call10 Tryd.func10 rfl (fi:=⟨8,[2,3],[],none,[]⟩) rfl rfl (Nat.le_of_ble_eq_true rfl) (by decide) ?_)
 unfold startA
 repeat' (first|refine st_seq_reg rfl (by first|(simp only[go_sem];rfl)|rfl) (by first|(simp only[go_sem];rfl)|rfl) ?_|refine st_reg rfl (by first|(simp only[go_sem];rfl)|rfl) (by first|(simp only[go_sem];rfl)|rfl) ?_|refine st_op ?_|refine st_det rfl (by simp (disch:=omega) only[go_sem,wr_i64];rfl) ?_|refine st_loc rfl (by simp (disch:=omega) only[go_sem,wr_i64];rfl) ?_|refine st_heap rfl (by simp (disch:=omega) only[go_sem,wr_i64];rfl) ?_|refine st_store (by simp (disch:=omega) only[go_sem,wr_i64];rfl) ?_|(refine st_pureE (by first|(simp (disch:=omega) only[go_sem];rfl)|rfl) rfl (c4) (by first|(simp only[go_sem];rfl)|rfl) (by intro n;first|(simp (disch:=omega) only[go_sem];rfl)|rfl) ?_;intro n hn)|refine st_nil ?_|refine st_tN ?_|refine st_seq ?_|refine st_skip ?_|refine st_ret ?_|refine st_tE ?_|refine st_tR ?_)
 simp (disch:=omega) only[AEnd,Tryd.results10,aresK,fin,go_sem,implies_true,true_and,and_true,List.reverse_cons,List.reverse_nil]
 rfl
theorem c17 (k a b:Int):Pure Tryd.prog 17 [.int .i64 k,.int .i64 a,.int .i64 b] (fun v=>v=Hu.av ⟨k,a,b⟩):=by
 intro h
 refine ACalls.forget (ACalls.of tab mixed Tryd.call17 Tryd.func17 rfl (fi:=⟨11,[6],[],none,[]⟩) rfl rfl (Nat.le_of_ble_eq_true rfl) (by decide) ?_)
 unfold startA
 repeat' (first|refine st_seq_reg rfl (by first|(simp only[go_sem];rfl)|rfl) (by first|(simp only[go_sem];rfl)|rfl) ?_|refine st_reg rfl (by first|(simp only[go_sem];rfl)|rfl) (by first|(simp only[go_sem];rfl)|rfl) ?_|refine st_op ?_|refine st_det rfl (by simp (disch:=omega) only[go_sem,wr_i64];rfl) ?_|refine st_loc rfl (by simp (disch:=omega) only[go_sem,wr_i64];rfl) ?_|refine st_heap rfl (by simp (disch:=omega) only[go_sem,wr_i64];rfl) ?_|refine st_store (by simp (disch:=omega) only[go_sem,wr_i64];rfl) ?_|refine st_nil ?_|refine st_tN ?_|refine st_seq ?_|refine st_skip ?_|refine st_ret ?_|refine st_tE ?_|refine st_tR ?_)
 simp (disch:=omega) only[AEnd,Tryd.results17,aresK,fin,go_sem,implies_true,true_and,and_true,List.reverse_cons,List.reverse_nil]
theorem c19 (a b:List Int) (ha:(a.length:Int) < 1000000) (hb:(b.length:Int) < 1000000):Pure Tryd.prog 19 [.lst 1 (a.map iv),.lst 1 (b.map iv)] (fun v=>v=.bool (decide (a=b))):=by
 intro h
 refine ACalls.forget (ACalls.of tab mixed Tryd.call19 Tryd.func19 rfl (fi:=⟨26,[],[],none,[(6,[0,0,3,7,0,0,48,112,255],[(0,false),(1,false),(2,false),(3,true),(4,false),(5,false),(6,false),(7,true),(8,false)])]⟩) rfl rfl (Nat.le_of_ble_eq_true rfl) (by decide) ?_)
 unfold startA
 repeat' (first|refine st_seq_reg rfl (by first|(simp only[go_sem];rfl)|rfl) (by first|(simp only[go_sem];rfl)|rfl) ?_|refine st_reg rfl (by first|(simp only[go_sem];rfl)|rfl) (by first|(simp only[go_sem];rfl)|rfl) ?_|refine st_seq_draw rfl (by first|(simp only[go_sem];rfl)|rfl) (by first|(simp only[go_sem];rfl)|rfl) ?_|refine st_draw rfl (by first|(simp only[go_sem];rfl)|rfl) (by first|(simp only[go_sem];rfl)|rfl) ?_|refine st_op ?_|refine st_det rfl (by simp (disch:=omega) only[go_sem,wr_i64];rfl) ?_|refine st_dop rfl ?_|refine st_condT rfl ?_|refine st_condF rfl ?_|(refine st_condS rfl ?_ ?_ <;> intro hg <;> (try simp only[dcT,dcF,bnT,bnF] at hg))|refine st_nil ?_|refine st_dnil ?_|refine st_tN ?_|refine st_seq ?_|refine st_block ?_|refine st_skip ?_|refine st_exit ?_|refine st_ret ?_|refine st_tE ?_|refine st_tR ?_|refine st_bN ?_|refine st_bR ?_|refine st_bH ?_|refine st_bM rfl ?_)
 ·simp (disch:=omega) only[AEnd,Tryd.results19,aresK,fin,go_sem,implies_true,true_and,and_true,List.reverse_cons,List.reverse_nil]
  have:¬ a=b:=fun e=>hg (by rw [e])
  simp [this]
 have hab:a.length=b.length:=by omega
 refine st_loopC (α:=Nat) tab mixed [] [] (by repeat (first|exact trivial|refine ⟨rfl,?_⟩)) [] [] (by repeat (first|exact trivial|refine ⟨rfl,?_⟩)) (fun i=>[(5,.int .i64 i)]) [(0,_),(1,_),(4,_)] (fun _=>[]) [] (fun i=>i≤a.length∧(a.drop i=b.drop i ↔ a=b)) (fun i=>a.length - i) (by decide) 0 ⟨by omega,by simp⟩ (by (try simp only[go_sem]);repeat' (first|exact trivial|refine And.intro ?_ ?_|rfl|(simp (disch:=omega) only[go_sem,if_yes,if_no,if_no];rfl)|(simp (disch:=omega) only[go_sem,if_yes,if_no,if_no]))) (by (try simp only[go_sem]);repeat' (first|exact trivial|refine And.intro ?_ ?_|rfl|(simp (disch:=omega) only[go_sem,if_yes,if_no,if_no];rfl)|(simp (disch:=omega) only[go_sem,if_yes,if_no,if_no]))) (by first|(simp only[go_sem];rfl)|rfl) (by intro n;simp only[go_sem];rfl) ?_
 rintro i c ⟨hi',hall⟩ hc
 simp only[go_sem]
 repeat' (first|refine st_seq_reg rfl (by first|(simp only[go_sem];rfl)|rfl) (by first|(simp only[go_sem];rfl)|rfl) ?_|refine st_reg rfl (by first|(simp only[go_sem];rfl)|rfl) (by first|(simp only[go_sem];rfl)|rfl) ?_|refine st_seq_draw rfl (by first|(simp only[go_sem];rfl)|rfl) (by first|(simp only[go_sem];rfl)|rfl) ?_|refine st_draw rfl (by first|(simp only[go_sem];rfl)|rfl) (by first|(simp only[go_sem];rfl)|rfl) ?_|refine st_op ?_|refine st_det rfl (by simp (disch:=omega) only[go_sem,wr_i64];rfl) ?_|refine st_dop rfl ?_|refine st_condT rfl ?_|refine st_condF rfl ?_|(refine st_condS rfl ?_ ?_ <;> intro hg <;> (try simp only[dcT,dcF,bnT,bnF] at hg))|refine st_nil ?_|refine st_dnil ?_|refine st_tN ?_|refine st_seq ?_|refine st_block ?_|refine st_skip ?_|refine st_exit ?_|refine st_ret ?_|refine st_tE ?_|refine st_tR ?_|refine st_bN ?_|refine st_bR ?_|refine st_bH ?_|refine st_bM rfl ?_)
 ·simp (disch:=omega) only[AEnd,Tryd.results19,aresK,fin,go_sem,implies_true,true_and,and_true,List.reverse_cons,List.reverse_nil]
  have:¬ a=b:=fun e=>hg (by rw [e])
  simp [this]
 ·have heq:a.getD i 0=b.getD i 0:=Decidable.of_not_not hg
  rw [drop_getD 0 (by omega),drop_getD 0 (by omega:i < b.length),List.cons.injEq] at hall
  refine ⟨i+1,⟨by omega,fun h=>hall.1 ⟨heq,h⟩,fun h=>(hall.2 h).2⟩,by omega,(by repeat' (first|exact trivial|refine And.intro ?_ ?_|rfl|(simp (disch:=omega) only[go_sem,if_yes,if_no,if_no];rfl)|(simp (disch:=omega) only[go_sem,if_yes,if_no,if_no]))),(by repeat' (first|exact trivial|refine And.intro ?_ ?_|rfl|(simp (disch:=omega) only[go_sem,if_yes,if_no,if_no];rfl)|(simp (disch:=omega) only[go_sem,if_yes,if_no,if_no]))),rfl,(by first|exact HOld.of _ (by omega)|exact HOld.put _ _ _ (by omega))⟩
 ·simp (disch:=omega) only[AEnd,Tryd.results19,aresK,fin,go_sem,implies_true,true_and,and_true,List.reverse_cons,List.reverse_nil]
  rw [List.drop_eq_nil_of_le (by omega),List.drop_eq_nil_of_le (by omega)] at hall
  have:a=b:=hall.1 rfl
  simp [this]
theorem c15s:Pure Tryd.prog 15 [(swanF 500).av] (fun v=>v=.tup [.agg [.int .i64 2650,.int .i64 2784],.agg [.int .i64 3000,.int .i64 3067],.int .i64 0]):=by
 have h:=c15 (swanF 500)
 have e:axV (swanF 500)=.tup [.agg [.int .i64 2650,.int .i64 2784],.agg [.int .i64 3000,.int .i64 3067],.int .i64 0]:=by
  unfold axV
  rw [if_neg (by decide +kernel),show downI (wL (frontA (swanF 500)) (swanF 500) 0 0) ((swanF 500).rear - (swanF 500).front)=2650 by decide +kernel,show upI (wH (frontA (swanF 500)) (swanF 500) 0 0) ((swanF 500).rear - (swanF 500).front)=2784 by decide +kernel,
   show downI (wL (rearA (swanF 500)) (swanF 500) 0 0) ((swanF 500).rear - (swanF 500).front)=3000 by decide +kernel,show upI (wH (rearA (swanF 500)) (swanF 500) 0 0) ((swanF 500).rear - (swanF 500).front)=3067 by decide +kernel]
 rw [e] at h;exact h
def swanR:List Hu:=[⟨1,700,1400⟩,⟨2,519,0⟩,⟨3,5649,3067⟩]
theorem c16s:Pure Tryd.prog 16 [(swanF 500).av,.lst 3 [[.int .i64 1,.int .i64 700,.int .i64 1400],[.int .i64 2,.int .i64 519,.int .i64 0],[.int .i64 3,.int .i64 5649,.int .i64 3067]]] (fun v=>v=.tup [.lst 1 ([1,3,2].map iv),.int .i64 0]):=by
 have h:=c16 (swanF 500) swanR
 have e:passV (swanF 500) swanR=.tup [.lst 1 ([1,3,2].map iv),.int .i64 0]:=by
  unfold passV
  rw [if_neg (by decide +kernel),show pVs (swanF 500) 0 0 swanR=[1,3,2] by decide +kernel]
 rw [e] at h;exact h
theorem c18s:Pure Tryd.prog 18 [(swanF 900).av,.nils,.int .i64 200] (fun v=>v=.tup [.agg [.int .i64 17,.int .i64 100000],.int .i64 0]):=by
 have h:=Pure.argLe (args:=[(swanF 900).av,.nils,.int .i64 200]) (by simp only[VLes];exact ⟨_,_,rfl,VLe.refl _,_,_,rfl,VLe.nils 3,_,_,rfl,VLe.refl _,rfl⟩) (c18 (swanF 900) [] 200)
 intro g
 refine (h g).mono ?_
 rintro v h' ⟨hl,hv⟩
 refine ⟨hl,?_⟩
 unfold balR at hv
 rw [if_neg (by decide +kernel),if_neg (by decide)] at hv
 obtain ⟨a,b,⟨a1,a2,a3,a4⟩,⟨b1,b2,b3,b4⟩,hv⟩:=hv
 have hs:∀ m,sP wL (swanF 900) 200 m ↔ 17≤m ∨ False:=by
  intro m
  simp [sP,wL,wl,frontA,rearA,swanF]
  omega
 simp only[hs,goesB,List.all_nil,Bool.not_true,or_false,decide_eq_false_iff_not,decide_eq_true_eq] at a3 a4 b3 b4
 have eb:b=100001:=by
  rcases Int.lt_or_le b 100001 with h|h
  ·exact absurd (b4 h) (by decide)
  ·omega
 have ea:a=17:=by omega
 rw [if_neg (by omega)] at hv
 rw [hv,ea,eb];rfl
theorem c5:Pure Tryd.prog 5 [] (fun v=>v=.bool true):=by
 intro h
 refine ACalls.forget (ACalls.of tab mixed Tryd.call5 Tryd.func5 rfl (fi:=⟨58,[1,2,6],[19,50],none,[(4,[0,1,3,7,15,31,63,127,255,511,1023,2047,2047,8191,16383,32767,65535,65535,262143,524287,1048575,2097151,2097151,8388607,16777215,33554431,67108863,67108863,268435455,536870911,1073741823],[(0,false),(1,false),(2,false),(3,false),(4,false),(5,false),(6,false),(7,false),(8,false),(9,false),(10,false),(11,true),(12,false),(13,false),(14,false),(15,false),(16,true),(17,false),(18,false),(19,false),(20,false),(21,false),(22,false),(23,false),(24,false),(25,false),(26,true),(27,false),(28,false),(29,false),(30,false)])]⟩) rfl rfl (Nat.le_of_ble_eq_true rfl) (by decide) ?_)
 unfold startA
 repeat' (first|refine st_seq_reg rfl (by first|(simp only[go_sem];rfl)|rfl) (by first|(simp only[go_sem];rfl)|rfl) ?_|refine st_reg rfl (by first|(simp only[go_sem];rfl)|rfl) (by first|(simp only[go_sem];rfl)|rfl) ?_|refine st_seq_draw rfl (by first|(simp only[go_sem];rfl)|rfl) (by first|(simp only[go_sem];rfl)|rfl) ?_|refine st_draw rfl (by first|(simp only[go_sem];rfl)|rfl) (by first|(simp only[go_sem];rfl)|rfl) ?_|refine st_op ?_|refine st_det rfl (by simp (disch:=omega) only[go_sem,wr_i64];rfl) ?_|refine st_dop rfl ?_|refine st_loc rfl (by simp (disch:=omega) only[go_sem,wr_i64];rfl) ?_|refine st_heap rfl (by simp (disch:=omega) only[go_sem,wr_i64];rfl) ?_|refine st_store (by simp (disch:=omega) only[go_sem,wr_i64];rfl) ?_|(refine st_pureE (by first|(simp (disch:=omega) only[go_sem];rfl)|rfl) rfl (c4) (by first|(simp only[go_sem];rfl)|rfl) (by intro n;first|(simp (disch:=omega) only[go_sem];rfl)|rfl) ?_;intro n hn)|(refine st_pureE (by first|(simp (disch:=omega) only[go_sem];rfl)|rfl) rfl (c15s) (by first|(simp only[go_sem];rfl)|rfl) (by intro n;first|(simp (disch:=omega) only[go_sem];rfl)|rfl) ?_;intro n hn)|(refine st_pureE (by first|(simp (disch:=omega) only[go_sem];rfl)|rfl) rfl (c17 _ _ _) (by first|(simp only[go_sem];rfl)|rfl) (by intro n;first|(simp (disch:=omega) only[go_sem];rfl)|rfl) ?_;intro n hn)|(refine st_pureE (by first|(simp (disch:=omega) only[go_sem];rfl)|rfl) rfl (c16s) (by first|(simp only[go_sem];rfl)|rfl) (by intro n;first|(simp (disch:=omega) only[go_sem];rfl)|rfl) ?_;intro n hn)|(refine st_pureE (by first|(simp (disch:=omega) only[go_sem];rfl)|rfl) rfl (c10 900) (by first|(simp only[go_sem];rfl)|rfl) (by intro n;first|(simp (disch:=omega) only[go_sem];rfl)|rfl) ?_;intro n hn)|(refine st_pureE (by first|(simp (disch:=omega) only[go_sem];rfl)|rfl) rfl (c18s) (by first|(simp only[go_sem];rfl)|rfl) (by intro n;first|(simp (disch:=omega) only[go_sem];rfl)|rfl) ?_;intro n hn)|(refine st_pureE (by first|(simp (disch:=omega) only[go_sem];rfl)|rfl) rfl (c9 _ _) (by first|(simp only[go_sem];rfl)|rfl) (by intro n;first|(simp (disch:=omega) only[go_sem];rfl)|rfl) ?_;intro n hn)|(refine st_pureE (by first|(simp (disch:=omega) only[go_sem];rfl)|rfl) rfl (c19 [1,3,2] [1,3,2] (by decide) (by decide)) (by first|(simp only[go_sem];rfl)|rfl) (by intro n;first|(simp (disch:=omega) only[go_sem];rfl)|rfl) ?_;intro n hn)|refine st_gT rfl rfl rfl ?_|refine st_gF rfl rfl rfl ?_|refine st_dgT rfl rfl rfl rfl ?_|refine st_dgF rfl rfl rfl ?_|(refine st_gS rfl rfl ?_ ?_ <;> intro hg <;> (try simp only[dcT,dcF,bnT,bnF] at hg))|(refine st_dgS rfl rfl ?_ ?_ <;> intro hg <;> (try simp only[dcT,dcF,bnT,bnF] at hg))|refine st_nil ?_|refine st_dnil ?_|refine st_tN ?_|refine st_seq ?_|refine st_skip ?_|refine st_ret ?_|refine st_tE ?_|refine st_tR ?_)
 simp (disch:=omega) only[AEnd,Tryd.results5,aresK,fin,go_sem,implies_true,true_and,and_true,List.reverse_cons,List.reverse_nil]
end Go.Proofs.YthpkmcjiobnpgaaDoor

namespace Go.Proofs.YthpkmcjiobnpgaaDoor
open Go.Av
attribute [local irreducible] thenA blockA awp awpOps awpD awp1
attribute [local go_sem_proc] Nat.reduceAdd Nat.reduceMul Nat.reduceEqDiff Nat.reduceBEq Nat.reduceLeDiff
attribute [local go_sem_proc ↓] reduceIte
attribute [local go_sem] if_yes if_no
set_option maxHeartbeats 8000000
set_option maxRecDepth 20000
theorem c11 (f:Fl) (h0:chkE f=0):Pure Tryd.prog 11 [f.av] (fun v=>v=.tup [.int .i64 (sV f 0 0),.int .i64 0]):=by
 have hf:=chkOk h0
 intro h
 refine ACalls.forget (ACalls.of tab mixed Tryd.call11 Tryd.func11 rfl (fi:=⟨13,[],[1],none,[]⟩) rfl rfl (Nat.le_of_ble_eq_true rfl) (by decide) ?_)
 unfold startA
 simp only[go_sem]
 repeat' (first|refine st_seq_reg rfl (by first|(simp only[go_sem];rfl)|rfl) (by first|(simp only[go_sem];rfl)|rfl) ?_|refine st_reg rfl (by first|(simp only[go_sem];rfl)|rfl) (by first|(simp only[go_sem];rfl)|rfl) ?_|refine st_op ?_|refine st_det rfl (by simp (disch:=omega) only[go_sem,wr_i64];rfl) ?_|refine st_loc rfl (by simp (disch:=omega) only[go_sem,wr_i64];rfl) ?_|refine st_heap rfl (by simp (disch:=omega) only[go_sem,wr_i64];rfl) ?_|(refine st_pureE (by first|(simp (disch:=omega) only[go_sem];rfl)|rfl) rfl (c6 f) (by first|(simp only[go_sem];rfl)|rfl) (by intro n;first|(simp (disch:=omega) only[go_sem];rfl)|rfl) ?_;intro n hn)|(refine st_pureE (by first|(simp (disch:=omega) only[go_sem];rfl)|rfl) rfl (c24 f 0 0 hf (by omega) (by omega)) (by first|(simp only[go_sem];rfl)|rfl) (by intro n;first|(simp (disch:=omega) only[go_sem];rfl)|rfl) ?_;intro n hn)|refine st_condT rfl ?_|refine st_condF rfl ?_|(refine st_condS rfl ?_ ?_ <;> intro hg <;> (try simp only[dcT,dcF,bnT,bnF] at hg))|refine st_nil ?_|refine st_tN ?_|refine st_seq ?_|refine st_skip ?_|refine st_ret ?_|refine st_tE ?_|refine st_tR ?_)
 ·exact absurd h0 (by omega)
 ·simp (disch:=omega) only[AEnd,Tryd.results11,aresK,fin,go_sem,implies_true,true_and,and_true,List.reverse_cons,List.reverse_nil]
end Go.Proofs.YthpkmcjiobnpgaaDoor

namespace Go.Proofs.YthpkmcjiobnpgaaDoor
open Go.Av
attribute [local irreducible] thenA blockA awp awpOps awpD awp1
attribute [local go_sem_proc] Nat.reduceAdd Nat.reduceMul Nat.reduceEqDiff Nat.reduceBEq Nat.reduceLeDiff
attribute [local go_sem_proc ↓] reduceIte
attribute [local go_sem] if_yes if_no
set_option maxHeartbeats 8000000
set_option maxRecDepth 20000
theorem c7 (f:Fl) (h0:chkE f=0):Pure Tryd.prog 7 [f.av] (fun v=>v=.tup [.agg [.int .i64 (wL oneA f 0 0),.int .i64 (wH oneA f 0 0)],.int .i64 0]):=by
 have hf:=chkOk h0
 intro h
 refine ACalls.forget (ACalls.of tab mixed Tryd.call7 Tryd.func7 rfl (fi:=⟨20,[2,5],[1],none,[]⟩) rfl rfl (Nat.le_of_ble_eq_true rfl) (by decide) ?_)
 unfold startA
 simp only[go_sem]
 repeat' (first|refine st_seq_reg rfl (by first|(simp only[go_sem];rfl)|rfl) (by first|(simp only[go_sem];rfl)|rfl) ?_|refine st_reg rfl (by first|(simp only[go_sem];rfl)|rfl) (by first|(simp only[go_sem];rfl)|rfl) ?_|refine st_op ?_|refine st_det rfl (by simp (disch:=omega) only[go_sem,wr_i64];rfl) ?_|refine st_loc rfl (by simp (disch:=omega) only[go_sem,wr_i64];rfl) ?_|refine st_heap rfl (by simp (disch:=omega) only[go_sem,wr_i64];rfl) ?_|refine st_store (by simp (disch:=omega) only[go_sem,wr_i64];rfl) ?_|(refine st_pureE (by first|(simp (disch:=omega) only[go_sem];rfl)|rfl) rfl (c6 f) (by first|(simp only[go_sem];rfl)|rfl) (by intro n;first|(simp (disch:=omega) only[go_sem];rfl)|rfl) ?_;intro n hn)|(refine st_pureE (by first|(simp (disch:=omega) only[go_sem];rfl)|rfl) rfl (c22 f 0 0 hf (by omega) (by omega)) (by first|(simp only[go_sem];rfl)|rfl) (by intro n;first|(simp (disch:=omega) only[go_sem];rfl)|rfl) ?_;intro n hn)|refine st_condT rfl ?_|refine st_condF rfl ?_|(refine st_condS rfl ?_ ?_ <;> intro hg <;> (try simp only[dcT,dcF,bnT,bnF] at hg))|refine st_nil ?_|refine st_tN ?_|refine st_seq ?_|refine st_skip ?_|refine st_ret ?_|refine st_tE ?_|refine st_tR ?_)
 ·exact absurd h0 (by omega)
 ·simp (disch:=omega) only[AEnd,Tryd.results7,aresK,fin,go_sem,implies_true,true_and,and_true,List.reverse_cons,List.reverse_nil]
theorem c8 (f:Fl) (h0:chkE f=0):Pure Tryd.prog 8 [f.av] (fun v=>v=.tup [.agg [.int .i64 (tl f.high f.loads),.int .i64 (th f.high f.loads)],.int .i64 0]):=by
 have hf:=chkOk h0
 intro h
 refine ACalls.forget (ACalls.of tab mixed Tryd.call8 Tryd.func8 rfl (fi:=⟨20,[2,5],[1],none,[]⟩) rfl rfl (Nat.le_of_ble_eq_true rfl) (by decide) ?_)
 unfold startA
 simp only[go_sem]
 repeat' (first|refine st_seq_reg rfl (by first|(simp only[go_sem];rfl)|rfl) (by first|(simp only[go_sem];rfl)|rfl) ?_|refine st_reg rfl (by first|(simp only[go_sem];rfl)|rfl) (by first|(simp only[go_sem];rfl)|rfl) ?_|refine st_op ?_|refine st_det rfl (by simp (disch:=omega) only[go_sem,wr_i64];rfl) ?_|refine st_loc rfl (by simp (disch:=omega) only[go_sem,wr_i64];rfl) ?_|refine st_heap rfl (by simp (disch:=omega) only[go_sem,wr_i64];rfl) ?_|refine st_store (by simp (disch:=omega) only[go_sem,wr_i64];rfl) ?_|(refine st_pureE (by first|(simp (disch:=omega) only[go_sem];rfl)|rfl) rfl (c6 f) (by first|(simp only[go_sem];rfl)|rfl) (by intro n;first|(simp (disch:=omega) only[go_sem];rfl)|rfl) ?_;intro n hn)|(refine st_pureE (by first|(simp (disch:=omega) only[go_sem];rfl)|rfl) rfl (c23 f 0 0 hf) (by first|(simp only[go_sem];rfl)|rfl) (by intro n;first|(simp (disch:=omega) only[go_sem];rfl)|rfl) ?_;intro n hn)|refine st_condT rfl ?_|refine st_condF rfl ?_|(refine st_condS rfl ?_ ?_ <;> intro hg <;> (try simp only[dcT,dcF,bnT,bnF] at hg))|refine st_nil ?_|refine st_tN ?_|refine st_seq ?_|refine st_skip ?_|refine st_ret ?_|refine st_tE ?_|refine st_tR ?_)
 ·exact absurd h0 (by omega)
 ·simp (disch:=omega) only[AEnd,Tryd.results8,aresK,fin,go_sem,implies_true,true_and,and_true,List.reverse_cons,List.reverse_nil]
end Go.Proofs.YthpkmcjiobnpgaaDoor
