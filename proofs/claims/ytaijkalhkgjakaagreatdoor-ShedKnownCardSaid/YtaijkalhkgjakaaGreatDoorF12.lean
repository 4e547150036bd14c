/- Contracts of functions that the claim reaches: what each call gives, told in our own logic. Conditions: those of each theorem. -/
import Derived.Test.YtaijkalhkgjakaaGreatDoorF6
import Derived.Test.YtaijkalhkgjakaaGreatDoorP1
import Derived.Test.YtaijkalhkgjakaaGreatDoorBaseC
set_option linter.all false
set_option linter.unusedSimpArgs false
set_option linter.unusedVariables false
namespace Go.Proofs.YtaijkalhkgjakaaGreatDoor
open Go.Av
attribute [local irreducible] thenA blockA awp awpOps awpD awp1
attribute [local go_sem_proc] Nat.reduceAdd Nat.reduceMul Nat.reduceEqDiff Nat.reduceBEq Nat.reduceLeDiff
attribute [local go_sem_proc ↓] reduceIte
attribute [local go_sem] if_yes if_no
set_option maxHeartbeats 8000000
set_option maxRecDepth 20000
structure HuOk (x:Hu):Prop where
 a:0≤x.a∧x.a≤10000000
 b:0≤x.b∧x.b≤10000000
 bend:x.kind=1→x.a≤20000∧x.b≤20000
def outR (f:Fl) (r:Int):Int:=(2 * r+f.wid) * (2 * r+f.wid)+2 * max f.rear (f.len - f.rear) * (2 * max f.rear (f.len - f.rear))
def bR (f:Fl) (x:Hu):Int:=max f.turn ((2 * x.a+f.wid+1) / 2)
def bendP (f:Fl) (x:Hu):Prop:=outR f (bR f x)≤4 * x.b * x.b
instance (f:Fl) (x:Hu):Decidable (bendP f x):=by unfold bendP;infer_instance
theorem sq_bd {a A:Int} (h:0≤a∧a≤A):0≤a * a∧a * a≤A * A :=
 ⟨Int.mul_nonneg h.1 h.1,Int.mul_le_mul h.2 h.2 h.1 (by omega)⟩
theorem c171 (f:Fl) (p m r:Int) (hf:FlOk f) (hr:0≤r∧r≤50000):Pure Tryz.prog 171 [.int .i64 r,.iptr (Tk.av f p m).cells 0] (fun v=>v=.int .i64 (outR f r)):=by
 have h1:=hf.len;have h2:=hf.axles;have h3:=hf.wid
 have s1:=sq_bd (a:=2 * r+f.wid) (A:=200000) (by omega)
 have s2:=sq_bd (a:=2 * max f.rear (f.len - f.rear)) (A:=200000) (by omega)
 intro h
 refine ACalls.forget (ACalls.of tab mixed Tryz.call171 Tryz.func171 rfl (fi:=⟨31,[],[],none,[(1,[0,1,0,4,12,31,0,64,192,0,512,1536,0,4096,12288,32256,65472,131008,63,524287],[(0,false),(1,false),(2,false),(3,false),(4,true),(5,false),(6,false),(7,false),(8,true),(9,false),(10,false),(11,true),(12,false),(13,false),(14,true),(15,false),(16,false),(17,false),(18,false),(19,false)])]⟩) rfl rfl (Nat.le_of_ble_eq_true rfl) (by decide) ?_)
 unfold startA
 simp only[go_sem]
 repeat' (first|refine st_seq_reg rfl (by first|(simp only[go_sem];rfl)|rfl) (by first|(simp only[go_sem];rfl)|rfl) ?_|refine st_seq_draw rfl (by first|(simp only[go_sem];rfl)|rfl) (by first|(simp only[go_sem];rfl)|rfl) ?_|refine st_op ?_|refine st_det rfl (by simp (disch:=omega) only[go_sem,wr_i64];rfl) ?_|refine st_dop rfl ?_|refine st_nil ?_|refine st_dnil ?_|refine st_ret ?_)
 simp (disch:=omega) only[AEnd,Tryz.results171,aresK,fin,go_sem,implies_true,true_and,and_true,List.reverse_cons,List.reverse_nil]
 rfl
theorem c148 (f:Fl) (p m:Int) (x:Hu) (hf:FlOk f) (ha:0≤x.a∧x.a≤20000) (hb:0≤x.b∧x.b≤20000):Pure Tryz.prog 148 [Tk.av f p m,x.av] (fun v=>v=.bool (decide (bendP f x))):=by
 have h1:=hf.len;have h2:=hf.axles;have h3:=hf.wid;have h4:=hf.turn
 have e:(2 * x.a+f.wid+1).tdiv 2=(2 * x.a+f.wid+1) / 2:=Int.tdiv_eq_ediv_of_nonneg (by omega)
 have s1:=mul_bd (k:=4 * x.b) (x:=x.b) (K:=80000) (A:=20000) (by omega) (by omega)
 intro h
 refine ACalls.forget (ACalls.of tab mixed Tryz.call148 Tryz.func148 rfl (fi:=⟨31,[],[2,3],none,[(3,[0,0,3,0,8,24,0,64,248,511,1023],[(0,false),(1,false),(3,false),(4,true),(5,false),(6,false),(7,true),(8,false),(2,false),(9,false),(10,false)])]⟩) rfl rfl (Nat.le_of_ble_eq_true rfl) (by decide) ?_)
 unfold startA
 simp only[go_sem]
 repeat' (first|refine st_seq_reg rfl (by first|(simp only[go_sem,e];rfl)|rfl) (by first|(simp only[go_sem,e];rfl)|rfl) ?_|refine st_seq_draw rfl (by first|(simp only[go_sem,e];rfl)|rfl) (by first|(simp only[go_sem,e];rfl)|rfl) ?_|refine st_op ?_|refine st_det rfl (by simp (disch:=omega) only[go_sem,wr_i64,e];rfl) ?_|refine st_dop rfl ?_|(refine st_pureV (by first|(simp only[go_sem,e];rfl)|rfl) (by first|(simp (disch:=omega) only[go_sem,e];rfl)|rfl) rfl (c171 f p m (bR f x) hf (by unfold bR;omega)) (by first|(simp only[go_sem,e];rfl)|rfl) (by intro n;first|(simp (disch:=omega) only[go_sem];rfl)|rfl) ?_;intro v n hv hn;subst hv)|refine st_nil ?_|refine st_dnil ?_|refine st_ret ?_)
 simp (disch:=omega) only[AEnd,Tryz.results148,aresK,fin,go_sem,implies_true,true_and,and_true,List.reverse_cons,List.reverse_nil]
 rfl
theorem base_bd {f:Fl} (hf:FlOk f):0≤f.rear - f.front∧f.rear - f.front≤3000:=by have h1:=hf.len;have h2:=hf.axles;omega
def brP (l:(Int→Int)→Fl→Int→Int→Int) (f:Fl) (p m:Int) (x:Hu):Prop:=l oneA f p m≤x.a∧max (l (frontA f) f p m) (l (rearA f) f p m)≤x.b * (f.rear - f.front)
instance (l:(Int→Int)→Fl→Int→Int→Int) (f:Fl) (p m:Int) (x:Hu):Decidable (brP l f p m x):=by unfold brP;infer_instance
theorem c150a (f:Fl) (p m:Int) (x:Hu) (hf:FlOk f) (hp:0≤p∧p≤3000) (hm:0≤m∧m≤100000) (hx:HuOk x):Pure Tryz.prog 150 [.int .i64 0,.iptr (Tk.av f p m).cells 0,.iptr x.row 0] (fun v=>v=.bool (decide (brP wL f p m x))):=by
 have s1:=mul_bd hx.b (A:=3000) (x:=f.rear - f.front) (by have:=base_bd hf;omega)
 intro h
 refine ACalls.forget (ACalls.of tab mixed Tryz.call150 Tryz.func150 rfl (fi:=⟨29,[],[],none,[(1,[0,1,0,7,0,16,63,127,255,511,255,2047,255,5119,255,29695,65535,255,131327,255,537599,1979391,4194303,8388607,16777215],[(0,true),(2,false),(4,false),(5,true),(1,false),(3,false),(6,false),(7,false),(8,true),(10,false),(12,true),(14,false),(17,false),(18,true),(19,true),(9,false),(11,false),(13,false),(15,false),(16,false),(20,false),(21,false),(22,false),(23,false),(24,false)])]⟩) rfl rfl (Nat.le_of_ble_eq_true rfl) (by decide) ?_)
 unfold startA
 simp only[go_sem]
 repeat' (first|refine st_seq_reg rfl (by first|(simp only[go_sem];rfl)|rfl) (by first|(simp only[go_sem];rfl)|rfl) ?_|refine st_seq_draw rfl (by first|(simp only[go_sem];rfl)|rfl) (by first|(simp only[go_sem];rfl)|rfl) ?_|refine st_op ?_|refine st_det rfl (by simp (disch:=omega) only[go_sem,wr_i64];rfl) ?_|refine st_dop rfl ?_|(refine st_pureE (by first|(simp (disch:=omega) only[go_sem];rfl)|rfl) rfl (c151 f p m hf hp hm) (by first|(simp only[go_sem];rfl)|rfl) (by intro n;first|(simp (disch:=omega) only[go_sem];rfl)|rfl) ?_;intro n hn)|(refine st_pureE (by first|(simp (disch:=omega) only[go_sem];rfl)|rfl) rfl (c119 f p m hf hp hm) (by first|(simp only[go_sem];rfl)|rfl) (by intro n;first|(simp (disch:=omega) only[go_sem];rfl)|rfl) ?_;intro n hn)|(refine st_pureE (by first|(simp (disch:=omega) only[go_sem];rfl)|rfl) rfl (c120 f p m hf hp hm) (by first|(simp only[go_sem];rfl)|rfl) (by intro n;first|(simp (disch:=omega) only[go_sem];rfl)|rfl) ?_;intro n hn)|(refine st_pureE (by first|(simp (disch:=omega) only[go_sem];rfl)|rfl) rfl (c152 f p m hf) (by first|(simp only[go_sem];rfl)|rfl) (by intro n;first|(simp (disch:=omega) only[go_sem];rfl)|rfl) ?_;intro n hn)|refine st_dgT rfl rfl rfl rfl ?_|refine st_dgF rfl rfl rfl ?_|(refine st_dgS rfl rfl ?_ ?_ <;> intro hg <;> (try simp only[dcT,dcF,bnT,bnF] at hg))|refine st_nil ?_|refine st_dnil ?_|refine st_ret ?_)
 all_goals
  simp (disch:=omega) only[AEnd,Tryz.results150,aresK,fin,go_sem,implies_true,true_and,and_true,List.reverse_cons,List.reverse_nil]
  all_goals simp [brP, *]
theorem c150b (f:Fl) (p m:Int) (x:Hu) (hf:FlOk f) (hp:0≤p∧p≤3000) (hm:0≤m∧m≤100000) (hx:HuOk x):Pure Tryz.prog 150 [.int .i64 1,.iptr (Tk.av f p m).cells 0,.iptr x.row 0] (fun v=>v=.bool (decide (brP wH f p m x))):=by
 have s1:=mul_bd hx.b (A:=3000) (x:=f.rear - f.front) (by have:=base_bd hf;omega)
 intro h
 refine ACalls.forget (ACalls.of tab mixed Tryz.call150 Tryz.func150 rfl (fi:=⟨29,[],[],none,[(1,[0,1,0,7,0,16,63,127,255,511,255,2047,255,5119,255,29695,65535,255,131327,255,537599,1979391,4194303,8388607,16777215],[(0,true),(2,false),(4,false),(5,true),(1,false),(3,false),(6,false),(7,false),(8,true),(10,false),(12,true),(14,false),(17,false),(18,true),(19,true),(9,false),(11,false),(13,false),(15,false),(16,false),(20,false),(21,false),(22,false),(23,false),(24,false)])]⟩) rfl rfl (Nat.le_of_ble_eq_true rfl) (by decide) ?_)
 unfold startA
 simp only[go_sem]
 repeat' (first|refine st_seq_reg rfl (by first|(simp only[go_sem];rfl)|rfl) (by first|(simp only[go_sem];rfl)|rfl) ?_|refine st_seq_draw rfl (by first|(simp only[go_sem];rfl)|rfl) (by first|(simp only[go_sem];rfl)|rfl) ?_|refine st_op ?_|refine st_det rfl (by simp (disch:=omega) only[go_sem,wr_i64];rfl) ?_|refine st_dop rfl ?_|(refine st_pureE (by first|(simp (disch:=omega) only[go_sem];rfl)|rfl) rfl (c151 f p m hf hp hm) (by first|(simp only[go_sem];rfl)|rfl) (by intro n;first|(simp (disch:=omega) only[go_sem];rfl)|rfl) ?_;intro n hn)|(refine st_pureE (by first|(simp (disch:=omega) only[go_sem];rfl)|rfl) rfl (c119 f p m hf hp hm) (by first|(simp only[go_sem];rfl)|rfl) (by intro n;first|(simp (disch:=omega) only[go_sem];rfl)|rfl) ?_;intro n hn)|(refine st_pureE (by first|(simp (disch:=omega) only[go_sem];rfl)|rfl) rfl (c120 f p m hf hp hm) (by first|(simp only[go_sem];rfl)|rfl) (by intro n;first|(simp (disch:=omega) only[go_sem];rfl)|rfl) ?_;intro n hn)|(refine st_pureE (by first|(simp (disch:=omega) only[go_sem];rfl)|rfl) rfl (c152 f p m hf) (by first|(simp only[go_sem];rfl)|rfl) (by intro n;first|(simp (disch:=omega) only[go_sem];rfl)|rfl) ?_;intro n hn)|refine st_dgT rfl rfl rfl rfl ?_|refine st_dgF rfl rfl rfl ?_|(refine st_dgS rfl rfl ?_ ?_ <;> intro hg <;> (try simp only[dcT,dcF,bnT,bnF] at hg))|refine st_nil ?_|refine st_dnil ?_|refine st_ret ?_)
 all_goals
  simp (disch:=omega) only[AEnd,Tryz.results150,aresK,fin,go_sem,implies_true,true_and,and_true,List.reverse_cons,List.reverse_nil]
  all_goals simp [brP, *]
def pV (f:Fl) (p m:Int) (x:Hu):Int :=
 if x.kind=1 then (if bendP f x then 1 else 2)
 else if x.kind=2 then (if th f.high f.loads≤x.a then 1 else if tl f.high f.loads≤x.a then 3 else 2)
 else (if brP wH f p m x then 1 else if brP wL f p m x then 3 else 2)
theorem c122 (f:Fl) (p m:Int) (x:Hu) (hf:FlOk f) (hp:0≤p∧p≤3000) (hm:0≤m∧m≤100000) (hx:HuOk x):Pure Tryz.prog 122 [Tk.av f p m,x.av] (fun v=>v=.int .i64 (pV f p m x)):=by
 have ha:=hx.a;have hb:=hx.b;have hc:=hx.bend
 intro h
 refine ACalls.forget (ACalls.of tab mixed Tryz.call122 Tryz.func122 rfl (fi:=⟨39,[7],[2,3],none,[(10,[0,1,0,4,15,0,32,0,128,480,31,2047],[(0,false),(1,true),(2,false),(3,true),(4,false),(5,false),(6,true),(7,false),(8,true),(9,false),(10,false),(11,false)])]⟩) rfl rfl (Nat.le_of_ble_eq_true rfl) (by decide) ?_)
 unfold startA
 simp only[go_sem]
 repeat' (first|refine st_seq_reg rfl (by first|(simp only[go_sem];rfl)|rfl) (by first|(simp only[go_sem];rfl)|rfl) ?_|refine st_reg rfl (by first|(simp only[go_sem];rfl)|rfl) (by first|(simp only[go_sem];rfl)|rfl) ?_|refine st_draw rfl (by first|(simp only[go_sem];rfl)|rfl) (by first|(simp only[go_sem];rfl)|rfl) ?_|refine st_op ?_|refine st_det rfl (by simp (disch:=omega) only[go_sem,wr_i64];rfl) ?_|refine st_dop rfl ?_|refine st_loc rfl (by simp (disch:=omega) only[go_sem,wr_i64];rfl) ?_|refine st_store (by simp (disch:=omega) only[go_sem,wr_i64];rfl) ?_|(refine st_pureE (by first|(simp (disch:=omega) only[go_sem];rfl)|rfl) rfl (c148 f p m x hf (by omega) (by omega)) (by first|(simp only[go_sem];rfl)|rfl) (by intro n;first|(simp (disch:=omega) only[go_sem];rfl)|rfl) ?_;intro n hn)|(refine st_pureE (by first|(simp (disch:=omega) only[go_sem];rfl)|rfl) rfl (c149 f p m hf) (by first|(simp only[go_sem];rfl)|rfl) (by intro n;first|(simp (disch:=omega) only[go_sem];rfl)|rfl) ?_;intro n hn)|(refine st_pureV (by first|(simp only[go_sem];rfl)|rfl) (by first|(simp (disch:=omega) only[go_sem];rfl)|rfl) rfl (c150a f p m x hf hp hm hx) (by first|(simp only[go_sem];rfl)|rfl) (by intro n;first|(simp (disch:=omega) only[go_sem];rfl)|rfl) ?_;intro v n hv hn;subst hv)|(refine st_pureV (by first|(simp only[go_sem];rfl)|rfl) (by first|(simp (disch:=omega) only[go_sem];rfl)|rfl) rfl (c150b f p m x hf hp hm hx) (by first|(simp only[go_sem];rfl)|rfl) (by intro n;first|(simp (disch:=omega) only[go_sem];rfl)|rfl) ?_;intro v n hv hn;subst hv)|(refine st_pureE (by first|(simp (disch:=omega) only[go_sem];rfl)|rfl) rfl (c121 _ _) (by first|(simp only[go_sem];rfl)|rfl) (by intro n;first|(simp (disch:=omega) only[go_sem];rfl)|rfl) ?_;intro n hn)|(refine st_condS rfl ?_ ?_ <;> intro hg <;> (try simp only[dcT,dcF,bnT,bnF] at hg))|refine st_nil ?_|refine st_dnil ?_|refine st_tN ?_|refine st_seq ?_|refine st_block ?_|refine st_ret ?_|refine st_bN ?_)
 all_goals
  simp (disch:=omega) only[AEnd,Tryz.results122,aresK,fin,go_sem,implies_true,true_and,and_true,List.reverse_cons,List.reverse_nil]
  all_goals simp [pV, *]
end Go.Proofs.YtaijkalhkgjakaaGreatDoor

namespace Go.Proofs.YtaijkalhkgjakaaGreatDoor
open Go.Av
attribute [local irreducible] thenA blockA awp awpOps awpD awp1
attribute [local go_sem_proc] Nat.reduceAdd Nat.reduceMul Nat.reduceEqDiff Nat.reduceBEq Nat.reduceLeDiff
attribute [local go_sem_proc ↓] reduceIte
attribute [local go_sem] if_yes if_no
set_option maxHeartbeats 8000000
set_option maxRecDepth 20000
def loadsE (f:Fl):List Ld→Int
 | []=>0
 | x :: l=>if loadE f x ≠ 0 then loadE f x else loadsE f l
def chkE (f:Fl):Int :=
 if ¬ (1≤f.len∧f.len≤3000) then 2 else if ¬ (1≤f.wid∧f.wid≤1000) then 2 else if ¬ (0≤f.front∧f.front≤f.len∧0≤f.rear∧f.rear≤f.len) then 2
 else if f.front ≥ f.rear then 9 else if ¬ (0≤f.turn∧f.turn≤20000) then 2 else if ¬ (0≤f.kilos∧f.kilos≤100000) then 2 else if ¬ (0≤f.mid∧f.mid≤f.len) then 2
 else if ¬ (0≤f.high∧f.high≤2000) then 2 else if (f.loads.length:Int) > 20 then 5 else loadsE f f.loads
theorem c91 (f:Fl):Pure Tryz.prog 91 [f.av] (fun v=>v=.int .i64 (chkE f)):=by
 intro h
 refine ACalls.forget (ACalls.of tab mixed Tryz.call91 Tryz.func91 rfl (fi:=⟨74,[4],[1,9,14,23,35,40,47,52],none,[]⟩) rfl rfl (Nat.le_of_ble_eq_true rfl) (by decide) ?_)
 unfold startA
 try simp only[go_sem]
 repeat' (first|refine st_seq_reg rfl (by first|(simp only[go_sem];rfl)|rfl) (by first|(simp only[go_sem];rfl)|rfl) ?_|refine st_reg rfl (by first|(simp only[go_sem];rfl)|rfl) (by first|(simp only[go_sem];rfl)|rfl) ?_|refine st_op ?_|refine st_det rfl (by simp (disch:=omega) only[go_sem,wr_i64];rfl) ?_|(refine st_pureE (by first|(simp (disch:=omega) only[go_sem];rfl)|rfl) rfl (c116a _ _ _) (by first|(simp only[go_sem];rfl)|rfl) (by intro n;first|(simp (disch:=omega) only[go_sem];rfl)|rfl) ?_;intro n hn)|(refine st_pureE (by first|(simp (disch:=omega) only[go_sem];rfl)|rfl) rfl (c116b _ _ _ _) (by first|(simp only[go_sem];rfl)|rfl) (by intro n;first|(simp (disch:=omega) only[go_sem];rfl)|rfl) ?_;intro n hn)|refine st_condT rfl ?_|(refine st_condS rfl ?_ ?_ <;> intro hg <;> (try simp only[dcT,dcF,bnT,bnF] at hg))|refine st_nil ?_|refine st_tN ?_|refine st_seq ?_|refine st_block ?_|refine st_skip ?_|refine st_ret ?_|refine st_tR ?_|refine st_bN ?_|refine st_bR ?_)
 case' refine_2.refine_2.refine_2.refine_2.refine_2.refine_2.refine_2.refine_2.refine_2 =>
  refine st_loopC (α:=Nat) tab mixed [] [] (by repeat (first|exact trivial|refine ⟨rfl,?_⟩)) [] [] (by repeat (first|exact trivial|refine ⟨rfl,?_⟩)) (fun i=>[(63,.int .i64 i)]) [(1,_),(2,_),(61,_),(62,_)] (fun _=>[]) [] (fun i=>i≤f.loads.length∧loadsE f (f.loads.drop i)=loadsE f f.loads) (fun i=>f.loads.length - i) (by decide) 0 ⟨by omega,rfl⟩ (by (try simp only[go_sem]);repeat' (first|exact trivial|refine And.intro ?_ ?_|rfl|(simp (disch:=omega) only[go_sem,if_yes,if_no,if_no];rfl)|(simp (disch:=omega) only[go_sem,if_yes,if_no,if_no]))) (by (try simp only[go_sem]);repeat' (first|exact trivial|refine And.intro ?_ ?_|rfl|(simp (disch:=omega) only[go_sem,if_yes,if_no,if_no];rfl)|(simp (disch:=omega) only[go_sem,if_yes,if_no,if_no]))) (by first|(simp only[go_sem];rfl)|rfl) (by intro n;simp only[go_sem];rfl) ?_
  rintro i c ⟨hi',hall⟩ hc
  simp only[go_sem]
  repeat' (first|refine st_seq_reg rfl (by first|(simp only[go_sem];rfl)|rfl) (by first|(simp only[go_sem];rfl)|rfl) ?_|refine st_reg rfl (by first|(simp only[go_sem];rfl)|rfl) (by first|(simp only[go_sem];rfl)|rfl) ?_|refine st_op ?_|refine st_det rfl (by simp (disch:=omega) only[go_sem,wr_i64];rfl) ?_|refine st_loc rfl (by simp (disch:=omega) only[go_sem,wr_i64];rfl) ?_|refine st_store (by simp (disch:=omega) only[go_sem,wr_i64];rfl) ?_|(refine st_pureE (by first|(simp (disch:=omega) only[go_sem];rfl)|rfl) rfl (c117 f (ld f.loads i)) (by first|(simp only[go_sem];rfl)|rfl) (by intro n;first|(simp (disch:=omega) only[go_sem];rfl)|rfl) ?_;intro n hn)|(refine st_condS rfl ?_ ?_ <;> intro hg <;> (try simp only[dcT,dcF,bnT,bnF] at hg))|refine st_nil ?_|refine st_tN ?_|refine st_seq ?_|refine st_block ?_|refine st_skip ?_|refine st_exit ?_|refine st_ret ?_|refine st_tE ?_|refine st_tR ?_|refine st_bN ?_|refine st_bR ?_|refine st_bH ?_)
  ·simp (disch:=omega) only[AEnd,Tryz.results91,aresK,fin,go_sem,implies_true,true_and,and_true,List.reverse_cons,List.reverse_nil]
   rw [drop_ld (by omega)] at hall
   rw [loadsE,if_pos (by assumption)] at hall
   simp [chkE] <;> omega
  ·refine ⟨i+1,⟨by omega,by rw [drop_ld (by omega),loadsE,if_neg (by assumption)] at hall;exact hall⟩,by omega,(by repeat' (first|exact trivial|refine And.intro ?_ ?_|rfl|(simp (disch:=omega) only[go_sem,if_yes,if_no,if_no];rfl)|(simp (disch:=omega) only[go_sem,if_yes,if_no,if_no]))),(by repeat' (first|exact trivial|refine And.intro ?_ ?_|rfl|(simp (disch:=omega) only[go_sem,if_yes,if_no,if_no];rfl)|(simp (disch:=omega) only[go_sem,if_yes,if_no,if_no]))),rfl,(by first|exact HOld.of _ (by omega)|exact HOld.put _ _ _ (by omega))⟩
  ·simp (disch:=omega) only[AEnd,Tryz.results91,aresK,fin,go_sem,implies_true,true_and,and_true,List.reverse_cons,List.reverse_nil]
   rw [List.drop_eq_nil_of_le (by omega),loadsE] at hall
   simp [chkE] <;> omega
 all_goals
  simp (disch:=omega) only[AEnd,Tryz.results91,aresK,fin,go_sem,implies_true,true_and,and_true,List.reverse_cons,List.reverse_nil]
  simp [chkE] <;> omega
end Go.Proofs.YtaijkalhkgjakaaGreatDoor

namespace Go.Proofs.YtaijkalhkgjakaaGreatDoor
open Go.Av
attribute [local irreducible] thenA blockA awp awpOps awpD awp1
attribute [local go_sem_proc] Nat.reduceAdd Nat.reduceMul Nat.reduceEqDiff Nat.reduceBEq Nat.reduceLeDiff
attribute [local go_sem_proc ↓] reduceIte
attribute [local go_sem] if_yes if_no
set_option maxHeartbeats 8000000
set_option maxRecDepth 20000
def turnsP (f:Fl) (x:Hu) (r:Int):Prop:=f.turn≤r∧2 * x.a≤2 * r - f.wid∧outR f r≤4 * x.b * x.b
instance (f:Fl) (x:Hu) (r:Int):Decidable (turnsP f x r):=by unfold turnsP;infer_instance
def bothE (f:Fl) (r:List Hu):Int:=if chkE f ≠ 0 then chkE f else routeE r
theorem c93 (f:Fl) (r:List Hu):Pure Tryz.prog 93 [f.av,.lst 3 (r.map Hu.row)] (fun v=>v=.int .i64 (bothE f r)):=by
 intro h
 refine ACalls.forget (ACalls.of tab mixed Tryz.call93 Tryz.func93 rfl (fi:=⟨13,[],[2],none,[]⟩) rfl rfl (Nat.le_of_ble_eq_true rfl) (by decide) ?_)
 unfold startA
 simp only[go_sem]
 repeat' (first|refine st_seq_reg rfl (by first|(simp only[go_sem];rfl)|rfl) (by first|(simp only[go_sem];rfl)|rfl) ?_|refine st_op ?_|refine st_det rfl (by simp (disch:=omega) only[go_sem,wr_i64];rfl) ?_|(refine st_pureE (by first|(simp (disch:=omega) only[go_sem];rfl)|rfl) rfl (c91 f) (by first|(simp only[go_sem];rfl)|rfl) (by intro n;first|(simp (disch:=omega) only[go_sem];rfl)|rfl) ?_;intro n hn)|(refine st_pureE (by first|(simp (disch:=omega) only[go_sem];rfl)|rfl) rfl (c52 r) (by first|(simp only[go_sem];rfl)|rfl) (by intro n;first|(simp (disch:=omega) only[go_sem];rfl)|rfl) ?_;intro n hn)|(refine st_condS rfl ?_ ?_ <;> intro hg <;> (try simp only[dcT,dcF,bnT,bnF] at hg))|refine st_nil ?_|refine st_tN ?_|refine st_seq ?_|refine st_skip ?_|refine st_ret ?_|refine st_tR ?_)
 all_goals
  simp (disch:=omega) only[AEnd,Tryz.results93,aresK,fin,go_sem,implies_true,true_and,and_true,List.reverse_cons,List.reverse_nil]
  all_goals simp [bothE, *]
theorem frz_hu (b:Bid) (k:Blk) (l:List Hu):frzss b k (l.map Hu.row)=l.map Hu.row:=by
 rw [frzss_map,List.map_map];rfl
theorem frz_ld (b:Bid) (k:Blk) (l:List Ld):frzss b k (l.map Ld.row)=l.map Ld.row:=by
 rw [frzss_map,List.map_map];rfl
def vfn (f:Fl) (p m:Int) (r:List Hu):AV:=.fn (.func 123) [] [.iptr [.lst 3 (r.map Hu.row)] 0,.iptr [.fn (.func 122) [Tk.av f p m] []] 0]
theorem c94 (f:Fl) (p m:Int) (r:List Hu):Pure Tryz.prog 94 [Tk.av f p m,.lst 3 (r.map Hu.row)] (fun v=>v=vfn f p m r):=by
 refine Pure.give Tryz.call94 fun h hold=>?_
 refine ACalls.of tab mixed Tryz.call94 Tryz.func94 rfl (fi:=⟨9,[],[2,3],none,[]⟩) rfl rfl (Nat.le_of_ble_eq_true rfl) (by decide) ?_
 unfold startA
 simp only[go_sem]
 repeat' (first|refine st_seq_reg rfl (by first|(simp only[go_sem];rfl)|rfl) (by first|(simp only[go_sem];rfl)|rfl) ?_|refine st_op ?_|refine st_det rfl (by simp (disch:=omega) only[go_sem,wr_i64];rfl) ?_|refine st_heap rfl (by simp (disch:=omega) only[go_sem,wr_i64];rfl) ?_|refine st_store (by simp (disch:=omega) only[go_sem,wr_i64];rfl) ?_|refine st_nil ?_|refine st_ret ?_)
 simp (disch:=omega) only[AEnd,Tryz.results94,aresK,fin,go_sem,implies_true,true_and,and_true,List.reverse_cons,List.reverse_nil]
 refine ⟨fun b' h1=>if_neg (fun e=>?_),.inr ⟨(h.clk+1,5),_,Nat.le_succ _,if_pos rfl,?_⟩⟩
 ·rw [e] at h1;exact absurd h1 (Nat.not_lt.2 (Nat.le_succ _))
 ·simp [frz,frzs,vfn,Tk.av,frz_hu,frz_ld]
theorem c123 (f:Fl) (p m:Int) (r:List Hu) (l:Nat) (hf:FlOk f) (hp:0≤p∧p≤3000) (hm:0≤m∧m≤100000) (hr:∀ x ∈ r,HuOk x) (hl:r.length≤1000) (I:Nat→AH→Prop) (D:AH→Prop) (hI:∀ i h n,I i h→h.clk≤n→I i (h.tick n))
  (hD:∀ h n,D h→h.clk≤n→D (h.tick n)) (hy:∀ i h,i < r.length→I i h→AYields Tryz.prog l [.int .i64 i,.int .i64 (pV f p m (hu r i))] h (fun v h'=>(v=.bool true∧I (i+1) h') ∨ (v=.bool false∧D h'))) (h:AH) (h0:I 0 h) :
  ACalls Tryz.prog 123 [.fn (.yield l) [] [],.iptr [.lst 3 (r.map Hu.row)] 0,.iptr [.fn (.func 122) [Tk.av f p m] []] 0] h (fun _ h'=>I r.length h' ∨ D h'):=by
 refine ACalls.of tab mixed Tryz.call123 Tryz.func123 rfl (fi:=⟨21,[5],[],none,[]⟩) rfl rfl (Nat.le_of_ble_eq_true rfl) (by decide) ?_
 unfold startA
 simp only[go_sem]
 repeat' (first|refine st_seq_reg rfl (by first|(simp only[go_sem];rfl)|rfl) (by first|(simp only[go_sem];rfl)|rfl) ?_|refine st_op ?_|refine st_det rfl (by simp (disch:=omega) only[go_sem,wr_i64];rfl) ?_|refine st_nil ?_|refine st_block ?_)
 refine st_loopH (α:=Nat × AH) tab mixed [] [] (by repeat (first|exact trivial|refine ⟨rfl,?_⟩)) [] [] (by repeat (first|exact trivial|refine ⟨rfl,?_⟩)) (fun a=>[(8,.int .i64 a.1)]) [(0,_),(2,_),(6,_),(7,_)] (fun _=>[]) [] (fun a=>a.2) (fun a=>a.1≤r.length∧I a.1 a.2) (fun a=>r.length - a.1) (by decide) (0,h) ⟨by omega,h0⟩ (by (try simp only[go_sem]);repeat' (first|exact trivial|refine And.intro ?_ ?_|rfl|(simp (disch:=omega) only[go_sem,if_yes,if_no,if_no];rfl)|(simp (disch:=omega) only[go_sem,if_yes,if_no,if_no]))) (by (try simp only[go_sem]);repeat' (first|exact trivial|refine And.intro ?_ ?_|rfl|(simp (disch:=omega) only[go_sem,if_yes,if_no,if_no];rfl)|(simp (disch:=omega) only[go_sem,if_yes,if_no,if_no]))) (HOld.tick (by simp only[go_sem];omega)) ?_
 rintro ⟨i,g⟩ c ⟨hi',hi⟩ hc
 simp only[go_sem] at hc
 simp only[go_sem]
 repeat' (first|refine st_seq_reg rfl (by first|(simp only[go_sem];rfl)|rfl) (by first|(simp only[go_sem];rfl)|rfl) ?_|refine st_reg rfl (by first|(simp only[go_sem];rfl)|rfl) (by first|(simp only[go_sem];rfl)|rfl) ?_|refine st_op ?_|refine st_det rfl (by simp (disch:=omega) only[go_sem,wr_i64];rfl) ?_|refine st_loc rfl (by simp (disch:=omega) only[go_sem,wr_i64];rfl) ?_|refine st_store (by simp (disch:=omega) only[go_sem,wr_i64];rfl) ?_|(refine st_pureV (by first|(simp only[go_sem];rfl)|rfl) (by first|(simp (disch:=omega) only[go_sem];rfl)|rfl) rfl (c122 f p m (hu r i) hf hp hm (hr _ (hu_mem (by omega)))) (by first|(simp only[go_sem];rfl)|rfl) (by intro n;first|(simp (disch:=omega) only[go_sem];rfl)|rfl) ?_;intro v n hv hn;subst hv)|(refine st_yield rfl (by first|(simp (disch:=omega) only[go_sem];rfl)|(simp (disch:=omega) only[go_sem])) rfl (hy i _ (by omega) (hI i g _ hi (by omega))) ?_;rintro v h' (⟨rfl,hi2⟩|⟨rfl,hd⟩))|refine st_condT rfl ?_|refine st_condF rfl ?_|(refine st_condS rfl ?_ ?_ <;> intro hg <;> (try simp only[dcT,dcF,bnT,bnF] at hg))|refine st_nil ?_|refine st_tN ?_|refine st_seq ?_|refine st_block ?_|refine st_skip ?_|refine st_exit ?_|refine st_ret ?_|refine st_tE ?_|refine st_tR ?_|refine st_bN ?_|refine st_bR ?_|refine st_bH ?_)
 ·refine ⟨(i+1,h'),⟨by omega,hi2⟩,by omega,(by repeat' (first|exact trivial|refine And.intro ?_ ?_|rfl|(simp (disch:=omega) only[go_sem,if_yes,if_no,if_no];rfl)|(simp (disch:=omega) only[go_sem,if_yes,if_no,if_no]))),(by repeat' (first|exact trivial|refine And.intro ?_ ?_|rfl|(simp (disch:=omega) only[go_sem,if_yes,if_no,if_no];rfl)|(simp (disch:=omega) only[go_sem,if_yes,if_no,if_no]))),rfl,HOld.tick (Nat.le_succ _)⟩
 ·simp (disch:=omega) only[AEnd,Tryz.results123,aresK,fin,go_sem,implies_true,true_and,and_true,List.reverse_cons,List.reverse_nil]
  exact .inr (hD _ _ hd (by omega))
 ·simp (disch:=omega) only[AEnd,Tryz.results123,aresK,fin,go_sem,implies_true,true_and,and_true,List.reverse_cons,List.reverse_nil]
  have e:i=r.length:=by omega
  subst e
  exact .inl (hI _ _ _ hi (by omega))
def pVs (f:Fl) (p m:Int) (r:List Hu):List Int:=r.map (pV f p m)
@[go_sem] theorem pVs_len (f:Fl) (p m:Int) (r:List Hu):(pVs f p m r).length=r.length:=by simp [pVs]
theorem routeOk {r:List Hu} (h:routeE r=0):∀ x ∈ r,HuOk x:=by
 have aux:∀ l:List Hu,hurdlesE l=0→∀ x ∈ l,HuOk x:=by
  intro l
  induction l with
  | nil=>intro _ x hx;cases hx
  | cons y l ih =>
   intro he x hx
   unfold hurdlesE at he
   split at he
   ·omega
   ·rename_i hy
    rcases List.mem_cons.1 hx with rfl|hx
    ·have hy':hurdleE x=0:=by omega
     unfold hurdleE at hy'
     refine ⟨?_,?_,?_⟩ <;> (repeat' split at hy') <;> omega
    ·exact ih he x hx
 unfold routeE at h
 split at h
 ·omega
 ·exact aux r h
theorem routeLen {r:List Hu} (h:routeE r=0):r.length≤40:=by
 unfold routeE at h
 split at h
 ·omega
 ·omega
theorem chkOk {f:Fl} (h:chkE f=0):FlOk f:=by
 have aux:∀ l:List Ld,loadsE f l=0→(0≤f.front∧f.rear≤3000)→∀ x ∈ l,LdOk x:=by
  intro l
  induction l with
  | nil=>intro _ _ x hx;cases hx
  | cons y l ih =>
   intro he hb x hx
   unfold loadsE at he
   split at he
   ·omega
   ·rename_i hy
    rcases List.mem_cons.1 hx with rfl|hx
    ·have hy':loadE f x=0:=by omega
     unfold loadE spanE at hy'
     unfold LdOk
     (repeat' split at hy') <;> omega
    ·exact ih he hb x hx
 unfold chkE at h
 (repeat' split at h) <;> try omega
 refine ⟨by omega,by omega,by omega,by omega,by omega,by omega,by omega,by omega,aux _ h (by omega)⟩
end Go.Proofs.YtaijkalhkgjakaaGreatDoor

namespace Go.Proofs.YtaijkalhkgjakaaGreatDoor
open Go.Av
attribute [local irreducible] thenA blockA awp awpOps awpD awp1
attribute [local go_sem_proc] Nat.reduceAdd Nat.reduceMul Nat.reduceEqDiff Nat.reduceBEq Nat.reduceLeDiff
attribute [local go_sem_proc ↓] reduceIte
attribute [local go_sem] if_yes if_no
set_option maxHeartbeats 8000000
set_option maxRecDepth 20000
end Go.Proofs.YtaijkalhkgjakaaGreatDoor

namespace Go.Proofs.YtaijkalhkgjakaaGreatDoor
open Go.Av
attribute [local irreducible] thenA blockA awp awpOps awpD awp1
attribute [local go_sem_proc] Nat.reduceAdd Nat.reduceMul Nat.reduceEqDiff Nat.reduceBEq Nat.reduceLeDiff
attribute [local go_sem_proc ↓] reduceIte
attribute [local go_sem] if_yes if_no
set_option maxHeartbeats 8000000
set_option maxRecDepth 20000
def sP (l:(Int→Int)→Fl→Int→Int→Int) (f:Fl) (p m:Int):Prop:=0≤l (frontA f) f p m∧0≤l (rearA f) f p m
instance (l:(Int→Int)→Fl→Int→Int→Int) (f:Fl) (p m:Int):Decidable (sP l f p m):=by unfold sP;infer_instance
theorem c118a (f:Fl) (p m:Int) (hf:FlOk f) (hp:0≤p∧p≤3000) (hm:0≤m∧m≤100000):Pure Tryz.prog 118 [.int .i64 0,.iptr (Tk.av f p m).cells 0] (fun v=>v=.bool (decide (sP wL f p m))):=by
 intro h
 refine ACalls.forget (ACalls.of tab mixed Tryz.call118 Tryz.func118 rfl (fi:=⟨16,[],[],none,[]⟩) rfl rfl (Nat.le_of_ble_eq_true rfl) (by decide) ?_)
 unfold startA
 simp only[go_sem]
 repeat' (first|refine st_seq_reg rfl (by first|(simp only[go_sem];rfl)|rfl) (by first|(simp only[go_sem];rfl)|rfl) ?_|refine st_op ?_|refine st_det rfl (by simp (disch:=omega) only[go_sem,wr_i64];rfl) ?_|(refine st_pureE (by first|(simp (disch:=omega) only[go_sem];rfl)|rfl) rfl (c119 f p m hf hp hm) (by first|(simp only[go_sem];rfl)|rfl) (by intro n;first|(simp (disch:=omega) only[go_sem];rfl)|rfl) ?_;intro n hn)|(refine st_pureE (by first|(simp (disch:=omega) only[go_sem];rfl)|rfl) rfl (c120 f p m hf hp hm) (by first|(simp only[go_sem];rfl)|rfl) (by intro n;first|(simp (disch:=omega) only[go_sem];rfl)|rfl) ?_;intro n hn)|refine st_gT rfl rfl rfl ?_|refine st_gF rfl rfl rfl ?_|(refine st_gS rfl rfl ?_ ?_ <;> intro hg <;> (try simp only[dcT,dcF,bnT,bnF] at hg))|refine st_nil ?_|refine st_ret ?_)
 all_goals
  simp (disch:=omega) only[AEnd,Tryz.results118,aresK,fin,go_sem,implies_true,true_and,and_true,List.reverse_cons,List.reverse_nil]
  all_goals simp [sP, *]
theorem c118b (f:Fl) (p m:Int) (hf:FlOk f) (hp:0≤p∧p≤3000) (hm:0≤m∧m≤100000):Pure Tryz.prog 118 [.int .i64 1,.iptr (Tk.av f p m).cells 0] (fun v=>v=.bool (decide (sP wH f p m))):=by
 intro h
 refine ACalls.forget (ACalls.of tab mixed Tryz.call118 Tryz.func118 rfl (fi:=⟨16,[],[],none,[]⟩) rfl rfl (Nat.le_of_ble_eq_true rfl) (by decide) ?_)
 unfold startA
 simp only[go_sem]
 repeat' (first|refine st_seq_reg rfl (by first|(simp only[go_sem];rfl)|rfl) (by first|(simp only[go_sem];rfl)|rfl) ?_|refine st_op ?_|refine st_det rfl (by simp (disch:=omega) only[go_sem,wr_i64];rfl) ?_|(refine st_pureE (by first|(simp (disch:=omega) only[go_sem];rfl)|rfl) rfl (c119 f p m hf hp hm) (by first|(simp only[go_sem];rfl)|rfl) (by intro n;first|(simp (disch:=omega) only[go_sem];rfl)|rfl) ?_;intro n hn)|(refine st_pureE (by first|(simp (disch:=omega) only[go_sem];rfl)|rfl) rfl (c120 f p m hf hp hm) (by first|(simp only[go_sem];rfl)|rfl) (by intro n;first|(simp (disch:=omega) only[go_sem];rfl)|rfl) ?_;intro n hn)|refine st_gT rfl rfl rfl ?_|refine st_gF rfl rfl rfl ?_|(refine st_gS rfl rfl ?_ ?_ <;> intro hg <;> (try simp only[dcT,dcF,bnT,bnF] at hg))|refine st_nil ?_|refine st_ret ?_)
 all_goals
  simp (disch:=omega) only[AEnd,Tryz.results118,aresK,fin,go_sem,implies_true,true_and,and_true,List.reverse_cons,List.reverse_nil]
  all_goals simp [sP, *]
def sV (f:Fl) (p m:Int):Int:=if sP wL f p m then 1 else if sP wH f p m then 3 else 2
theorem c92 (f:Fl) (p m:Int) (hf:FlOk f) (hp:0≤p∧p≤3000) (hm:0≤m∧m≤100000):Pure Tryz.prog 92 [Tk.av f p m] (fun v=>v=.int .i64 (sV f p m)):=by
 intro h
 refine ACalls.forget (ACalls.of tab mixed Tryz.call92 Tryz.func92 rfl (fi:=⟨10,[],[1],none,[]⟩) rfl rfl (Nat.le_of_ble_eq_true rfl) (by decide) ?_)
 unfold startA
 simp only[go_sem]
 repeat' (first|refine st_seq_reg rfl (by first|(simp only[go_sem];rfl)|rfl) (by first|(simp only[go_sem];rfl)|rfl) ?_|refine st_op ?_|refine st_det rfl (by simp (disch:=omega) only[go_sem,wr_i64];rfl) ?_|(refine st_pureV (by first|(simp only[go_sem];rfl)|rfl) (by first|(simp (disch:=omega) only[go_sem];rfl)|rfl) rfl (c118a f p m hf hp hm) (by first|(simp only[go_sem];rfl)|rfl) (by intro n;first|(simp (disch:=omega) only[go_sem];rfl)|rfl) ?_;intro v n hv hn;subst hv)|(refine st_pureV (by first|(simp only[go_sem];rfl)|rfl) (by first|(simp (disch:=omega) only[go_sem];rfl)|rfl) rfl (c118b f p m hf hp hm) (by first|(simp only[go_sem];rfl)|rfl) (by intro n;first|(simp (disch:=omega) only[go_sem];rfl)|rfl) ?_;intro v n hv hn;subst hv)|(refine st_pureE (by first|(simp (disch:=omega) only[go_sem];rfl)|rfl) rfl (c121 _ _) (by first|(simp only[go_sem];rfl)|rfl) (by intro n;first|(simp (disch:=omega) only[go_sem];rfl)|rfl) ?_;intro n hn)|refine st_nil ?_|refine st_ret ?_)
 simp (disch:=omega) only[AEnd,Tryz.results92,aresK,fin,go_sem,implies_true,true_and,and_true,List.reverse_cons,List.reverse_nil]
 simp [sV]
theorem bothOk {f:Fl} {r:List Hu} (h:bothE f r=0):FlOk f∧(∀ x ∈ r,HuOk x)∧r.length≤40∧chkE f=0∧routeE r=0:=by
 have hc0:chkE f=0:=by unfold bothE at h;split at h <;> omega
 have hr0:routeE r=0:=by unfold bothE at h;split at h <;> omega
 exact ⟨chkOk hc0,routeOk hr0,routeLen hr0,hc0,hr0⟩
end Go.Proofs.YtaijkalhkgjakaaGreatDoor
