/- Contracts of functions that the claim reaches: what each call gives, told in our own logic. Conditions: those of each theorem. -/
import Derived.Test.YthpkmcjiobnpgaaGreatDoorF5
open Nat (reduceAdd reduceMul reduceEqDiff reduceLeDiff)
set_option linter.all false
set_option linter.unusedSimpArgs false
set_option linter.unusedVariables false
namespace Go.Proofs.YthpkmcjiobnpgaaGreatDoor
open Go.Av
attribute [local irreducible] thenA blockA awp awpOps awpD awp1
set_option maxHeartbeats 8000000
set_option maxRecDepth 20000
def wL (arm:Int→Int) (f:Fl) (p m:Int):Int:=wl arm (f.kilos * arm f.mid+m * arm p) f.loads
def wH (arm:Int→Int) (f:Fl) (p m:Int):Int:=wh arm (f.kilos * arm f.mid+m * arm p) f.loads
def oneA:Int→Int:=fun _=>1
def frontA (f:Fl):Int→Int:=fun a=>f.rear - a
def rearA (f:Fl):Int→Int:=fun a=>a - f.front
theorem c86 (f:Fl) (p m:Int) (hf:FlOk f) (hp:0≤p∧p≤3000) (hm:0≤m∧m≤100000):Pure Tryz.prog 86 [Tk.av f p m] (fun v=>v=.agg [.int .i64 (wL oneA f p m),.int .i64 (wH oneA f p m)]):=by
  intro h
  refine ACalls.forget (ACalls.of tab mixed Tryz.call86 Tryz.func86 rfl (fi:=⟨5,[2],[1],none,[]⟩) rfl rfl (Nat.le_of_ble_eq_true rfl) (by decide) ?_)
  unfold startA
  simp only[go_sem]
  repeat' (first|refine st_seq_reg rfl (by first|(simp only[go_sem];rfl)|rfl) (by first|(simp only[go_sem];rfl)|rfl) ?_|refine st_op ?_|refine st_det rfl (by simp (disch:=omega) only[go_sem,wr_i64,if_yes,if_no,↓reduceIte,reduceAdd,reduceMul,reduceEqDiff,Nat.reduceBEq,reduceLeDiff];rfl) ?_|refine st_loc rfl (by simp (disch:=omega) only[go_sem,wr_i64,if_yes,if_no,↓reduceIte,reduceAdd,reduceMul,reduceEqDiff,Nat.reduceBEq,reduceLeDiff];rfl) ?_|refine st_store (by simp (disch:=omega) only[go_sem,wr_i64,if_yes,if_no,↓reduceIte,reduceAdd,reduceMul,reduceEqDiff,Nat.reduceBEq,reduceLeDiff];rfl) ?_|(refine st_pureE (by first|(simp (disch:=omega) only[go_sem];rfl)|rfl) rfl (c64 f p m 101 [] oneA hf hp hm (fun a _ _=>c101 a) (by intros;unfold oneA;omega)) (by first|(simp only[go_sem];rfl)|rfl) (by intro n;first|(simp (disch:=omega) only[go_sem];rfl)|rfl) ?_;intro n hn)|refine st_nil ?_|refine st_ret ?_)
  simp (disch:=omega) only[AEnd,Tryz.results86,aresK,fin,go_sem,↓reduceIte,reduceEqDiff,reduceAdd,reduceLeDiff,if_yes,if_no,implies_true,true_and,and_true,List.reverse_cons,List.reverse_nil]
  rfl
theorem c44 (f:Fl) (p m:Int) (hf:FlOk f) (hp:0≤p∧p≤3000) (hm:0≤m∧m≤100000):Pure Tryz.prog 44 [Tk.av f p m] (fun v=>v=.agg [.int .i64 (wL (frontA f) f p m),.int .i64 (wH (frontA f) f p m)]):=by
  have h1:=hf.len;have h2:=hf.axles
  intro h
  refine ACalls.forget (ACalls.of tab mixed Tryz.call44 Tryz.func44 rfl (fi:=⟨6,[2],[1],none,[]⟩) rfl rfl (Nat.le_of_ble_eq_true rfl) (by decide) ?_)
  unfold startA
  simp only[go_sem]
  repeat' (first|refine st_seq_reg rfl (by first|(simp only[go_sem];rfl)|rfl) (by first|(simp only[go_sem];rfl)|rfl) ?_|refine st_op ?_|refine st_det rfl (by simp (disch:=omega) only[go_sem,wr_i64,if_yes,if_no,↓reduceIte,reduceAdd,reduceMul,reduceEqDiff,Nat.reduceBEq,reduceLeDiff];rfl) ?_|refine st_loc rfl (by simp (disch:=omega) only[go_sem,wr_i64,if_yes,if_no,↓reduceIte,reduceAdd,reduceMul,reduceEqDiff,Nat.reduceBEq,reduceLeDiff];rfl) ?_|refine st_store (by simp (disch:=omega) only[go_sem,wr_i64,if_yes,if_no,↓reduceIte,reduceAdd,reduceMul,reduceEqDiff,Nat.reduceBEq,reduceLeDiff];rfl) ?_|(refine st_pureE (by first|(simp (disch:=omega) only[go_sem];rfl)|rfl) rfl (c64 f p m 65 [.iptr (Tk.av f p m).cells 0] (frontA f) hf hp hm (fun a g1 g2=>c65 f p m a ⟨g1,g2⟩ (by omega)) (by intros;unfold frontA;omega)) (by first|(simp only[go_sem];rfl)|rfl) (by intro n;first|(simp (disch:=omega) only[go_sem];rfl)|rfl) ?_;intro n hn)|refine st_nil ?_|refine st_ret ?_)
  simp (disch:=omega) only[AEnd,Tryz.results44,aresK,fin,go_sem,↓reduceIte,reduceEqDiff,reduceAdd,reduceLeDiff,if_yes,if_no,implies_true,true_and,and_true,List.reverse_cons,List.reverse_nil]
  rfl
theorem c45 (f:Fl) (p m:Int) (hf:FlOk f) (hp:0≤p∧p≤3000) (hm:0≤m∧m≤100000):Pure Tryz.prog 45 [Tk.av f p m] (fun v=>v=.agg [.int .i64 (wL (rearA f) f p m),.int .i64 (wH (rearA f) f p m)]):=by
  have h1:=hf.len;have h2:=hf.axles
  intro h
  refine ACalls.forget (ACalls.of tab mixed Tryz.call45 Tryz.func45 rfl (fi:=⟨6,[2],[1],none,[]⟩) rfl rfl (Nat.le_of_ble_eq_true rfl) (by decide) ?_)
  unfold startA
  simp only[go_sem]
  repeat' (first|refine st_seq_reg rfl (by first|(simp only[go_sem];rfl)|rfl) (by first|(simp only[go_sem];rfl)|rfl) ?_|refine st_op ?_|refine st_det rfl (by simp (disch:=omega) only[go_sem,wr_i64,if_yes,if_no,↓reduceIte,reduceAdd,reduceMul,reduceEqDiff,Nat.reduceBEq,reduceLeDiff];rfl) ?_|refine st_loc rfl (by simp (disch:=omega) only[go_sem,wr_i64,if_yes,if_no,↓reduceIte,reduceAdd,reduceMul,reduceEqDiff,Nat.reduceBEq,reduceLeDiff];rfl) ?_|refine st_store (by simp (disch:=omega) only[go_sem,wr_i64,if_yes,if_no,↓reduceIte,reduceAdd,reduceMul,reduceEqDiff,Nat.reduceBEq,reduceLeDiff];rfl) ?_|(refine st_pureE (by first|(simp (disch:=omega) only[go_sem];rfl)|rfl) rfl (c64 f p m 66 [.iptr (Tk.av f p m).cells 0] (rearA f) hf hp hm (fun a g1 g2=>c66 f p m a ⟨g1,g2⟩ (by omega)) (by intros;unfold rearA;omega)) (by first|(simp only[go_sem];rfl)|rfl) (by intro n;first|(simp (disch:=omega) only[go_sem];rfl)|rfl) ?_;intro n hn)|refine st_nil ?_|refine st_ret ?_)
  simp (disch:=omega) only[AEnd,Tryz.results45,aresK,fin,go_sem,↓reduceIte,reduceEqDiff,reduceAdd,reduceLeDiff,if_yes,if_no,implies_true,true_and,and_true,List.reverse_cons,List.reverse_nil]
  rfl
def tl (s:Int) (l:List Ld):Int:=(l.map (·.tlo)).foldl max s
def th (s:Int) (l:List Ld):Int:=(l.map (·.thi)).foldl max s
@[go_sem] theorem tl_nil (s:Int):tl s []=s:=rfl
@[go_sem] theorem th_nil (s:Int):th s []=s:=rfl
theorem tl_step {s:Int} {l:List Ld} {i:Nat} (h:i < l.length):tl s (l.take (i+1))=max (tl s (l.take i)) (ld l i).tlo:=by
  unfold tl ld;rw [List.take_succ_eq_append_getElem h,List.map_append,List.foldl_append,List.getD_eq_getElem?_getD,List.getElem?_eq_getElem h];rfl
theorem th_step {s:Int} {l:List Ld} {i:Nat} (h:i < l.length):th s (l.take (i+1))=max (th s (l.take i)) (ld l i).thi:=by
  unfold th ld;rw [List.take_succ_eq_append_getElem h,List.map_append,List.foldl_append,List.getD_eq_getElem?_getD,List.getElem?_eq_getElem h];rfl
theorem c84 (f:Fl) (p m:Int) (hf:FlOk f):Pure Tryz.prog 84 [Tk.av f p m] (fun v=>v=.agg [.int .i64 (tl f.high f.loads),.int .i64 (th f.high f.loads)]):=by
  have h4:=hf.loads.1
  have e1:∀ i,i < f.loads.length→_:=fun i h=>tl_step (s:=f.high) h
  have e2:∀ i,i < f.loads.length→_:=fun i h=>th_step (s:=f.high) h
  intro h
  refine ACalls.forget (ACalls.of tab mixed Tryz.call84 Tryz.func84 rfl (fi:=⟨36,[2,3,5],[1],none,[]⟩) rfl rfl (Nat.le_of_ble_eq_true rfl) (by decide) ?_)
  unfold startA
  simp only[go_sem]
  repeat' (first|refine st_seq_reg rfl (by first|(simp only[go_sem];rfl)|rfl) (by first|(simp only[go_sem];rfl)|rfl) ?_|refine st_op ?_|refine st_det rfl (by simp (disch:=omega) only[go_sem,wr_i64,if_yes,if_no,↓reduceIte,reduceAdd,reduceMul,reduceEqDiff,Nat.reduceBEq,reduceLeDiff];rfl) ?_|refine st_loc rfl (by simp (disch:=omega) only[go_sem,wr_i64,if_yes,if_no,↓reduceIte,reduceAdd,reduceMul,reduceEqDiff,Nat.reduceBEq,reduceLeDiff];rfl) ?_|refine st_store (by simp (disch:=omega) only[go_sem,wr_i64,if_yes,if_no,↓reduceIte,reduceAdd,reduceMul,reduceEqDiff,Nat.reduceBEq,reduceLeDiff];rfl) ?_|refine st_nil ?_|refine st_seq ?_|refine st_block ?_)
  refine st_loopC (α:=Nat) tab mixed [3] [_] (by repeat (first|exact trivial|refine ⟨rfl,?_⟩)) [2] [_] (by repeat (first|exact trivial|refine ⟨rfl,?_⟩)) (fun i=>[(17,.int .i64 i)]) [(1,_),(2,_),(3,_),(15,_),(16,_)] (fun i=>[[.int .i64 (tl f.high (f.loads.take i)),.int .i64 (th f.high (f.loads.take i))]]) [_] (fun i=>i≤f.loads.length) (fun i=>f.loads.length - i) (by decide) 0 (by omega) (by (try simp only[go_sem]);repeat' (first|exact trivial|refine And.intro ?_ ?_|rfl|(simp (disch:=omega) only[go_sem,if_yes,if_no,↓reduceIte,reduceAdd,reduceMul,reduceEqDiff,Nat.reduceBEq,reduceLeDiff];rfl)|(simp (disch:=omega) only[go_sem,if_yes,if_no,↓reduceIte,reduceAdd,reduceMul,reduceEqDiff,Nat.reduceBEq,reduceLeDiff]))) (by (try simp only[go_sem]);repeat' (first|exact trivial|refine And.intro ?_ ?_|rfl|(simp (disch:=omega) only[go_sem,if_yes,if_no,↓reduceIte,reduceAdd,reduceMul,reduceEqDiff,Nat.reduceBEq,reduceLeDiff];rfl)|(simp (disch:=omega) only[go_sem,if_yes,if_no,↓reduceIte,reduceAdd,reduceMul,reduceEqDiff,Nat.reduceBEq,reduceLeDiff]))) (by first|(simp only[go_sem];rfl)|rfl) (by intro n;simp only[go_sem];rfl) ?_
  rintro i c hi' hc
  simp only[go_sem]
  repeat' (first|refine st_seq_reg rfl (by first|(simp only[go_sem];rfl)|rfl) (by first|(simp only[go_sem];rfl)|rfl) ?_|refine st_reg rfl (by first|(simp only[go_sem];rfl)|rfl) (by first|(simp only[go_sem];rfl)|rfl) ?_|refine st_op ?_|refine st_det rfl (by simp (disch:=omega) only[go_sem,wr_i64,if_yes,if_no,↓reduceIte,reduceAdd,reduceMul,reduceEqDiff,Nat.reduceBEq,reduceLeDiff];rfl) ?_|refine st_loc rfl (by simp (disch:=omega) only[go_sem,wr_i64,if_yes,if_no,↓reduceIte,reduceAdd,reduceMul,reduceEqDiff,Nat.reduceBEq,reduceLeDiff];rfl) ?_|refine st_store (by simp (disch:=omega) only[go_sem,wr_i64,if_yes,if_no,↓reduceIte,reduceAdd,reduceMul,reduceEqDiff,Nat.reduceBEq,reduceLeDiff];rfl) ?_|(refine st_condS rfl ?_ ?_ <;> intro hg <;> (try simp only[decide_eq_true_eq,decide_eq_false_iff_not,Bool.not_eq_true',Bool.not_eq_false'] at hg))|refine st_nil ?_|refine st_tN ?_|refine st_seq ?_|refine st_block ?_|refine st_skip ?_|refine st_exit ?_|refine st_ret ?_|refine st_tE ?_|refine st_bN ?_|refine st_bH ?_)
  · refine ⟨i+1,(by omega),by omega,(by (try (rw [e1 i (by omega),e2 i (by omega)]));repeat' (first|exact trivial|refine And.intro ?_ ?_|rfl|(simp (disch:=omega) only[go_sem,if_yes,if_no,↓reduceIte,reduceAdd,reduceMul,reduceEqDiff,Nat.reduceBEq,reduceLeDiff];rfl)|(simp (disch:=omega) only[go_sem,if_yes,if_no,↓reduceIte,reduceAdd,reduceMul,reduceEqDiff,Nat.reduceBEq,reduceLeDiff]))),(by (try (rw [e1 i (by omega),e2 i (by omega)]));repeat' (first|exact trivial|refine And.intro ?_ ?_|rfl|(simp (disch:=omega) only[go_sem,if_yes,if_no,↓reduceIte,reduceAdd,reduceMul,reduceEqDiff,Nat.reduceBEq,reduceLeDiff];rfl)|(simp (disch:=omega) only[go_sem,if_yes,if_no,↓reduceIte,reduceAdd,reduceMul,reduceEqDiff,Nat.reduceBEq,reduceLeDiff]))),rfl,(by first|exact HOld.of _ (by omega)|exact HOld.put _ _ _ (by omega))⟩
  · rw [List.take_of_length_le (by omega)]
    simp (disch:=omega) only[AEnd,Tryz.results84,aresK,fin,go_sem,↓reduceIte,reduceEqDiff,reduceAdd,reduceLeDiff,if_yes,if_no,implies_true,true_and,and_true,List.reverse_cons,List.reverse_nil]
structure HuOk (x:Hu):Prop where
  a:0≤x.a∧x.a≤10000000
  b:0≤x.b∧x.b≤10000000
  bend:x.kind=1→x.a≤20000∧x.b≤20000
def outR (f:Fl) (r:Int):Int:=(2 * r+f.wid) * (2 * r+f.wid)+2 * max f.rear (f.len - f.rear) * (2 * max f.rear (f.len - f.rear))
def bR (f:Fl) (x:Hu):Int:=max f.turn ((2 * x.a+f.wid+1) / 2)
def bendP (f:Fl) (x:Hu):Prop:=outR f (bR f x)≤4 * x.b * x.b
instance (f:Fl) (x:Hu):Decidable (bendP f x):=by unfold bendP;infer_instance
theorem sq_bd {a A:Int} (h:0≤a∧a≤A):0≤a * a∧a * a≤A * A :=
  ⟨Int.mul_nonneg h.1 h.1,Int.mul_le_mul h.2 h.2 h.1 (by omega)⟩
theorem c100 (f:Fl) (p m r:Int) (hf:FlOk f) (hr:0≤r∧r≤50000):Pure Tryz.prog 100 [.int .i64 r,.iptr (Tk.av f p m).cells 0] (fun v=>v=.int .i64 (outR f r)):=by
  have h1:=hf.len;have h2:=hf.axles;have h3:=hf.wid
  have s1:=sq_bd (a:=2 * r+f.wid) (A:=200000) (by omega)
  have s2:=sq_bd (a:=2 * max f.rear (f.len - f.rear)) (A:=200000) (by omega)
  intro h
  refine ACalls.forget (ACalls.of tab mixed Tryz.call100 Tryz.func100 rfl (fi:=⟨31,[],[],none,[(1,[0,1,0,4,12,31,0,64,192,0,512,1536,0,4096,12288,32256,65472,131008,63,524287],[(0,false),(1,false),(2,false),(3,false),(4,true),(5,false),(6,false),(7,false),(8,true),(9,false),(10,false),(11,true),(12,false),(13,false),(14,true),(15,false),(16,false),(17,false),(18,false),(19,false)])]⟩) rfl rfl (Nat.le_of_ble_eq_true rfl) (by decide) ?_)
  unfold startA
  simp only[go_sem]
  repeat' (first|refine st_seq_reg rfl (by first|(simp only[go_sem];rfl)|rfl) (by first|(simp only[go_sem];rfl)|rfl) ?_|refine st_seq_draw rfl (by first|(simp only[go_sem];rfl)|rfl) (by first|(simp only[go_sem];rfl)|rfl) ?_|refine st_op ?_|refine st_det rfl (by simp (disch:=omega) only[go_sem,wr_i64,if_yes,if_no,↓reduceIte,reduceAdd,reduceMul,reduceEqDiff,Nat.reduceBEq,reduceLeDiff];rfl) ?_|refine st_dop rfl ?_|refine st_nil ?_|refine st_dnil ?_|refine st_ret ?_)
  simp (disch:=omega) only[AEnd,Tryz.results100,aresK,fin,go_sem,↓reduceIte,reduceEqDiff,reduceAdd,reduceLeDiff,if_yes,if_no,implies_true,true_and,and_true,List.reverse_cons,List.reverse_nil]
  rfl
theorem c83 (f:Fl) (p m:Int) (x:Hu) (hf:FlOk f) (ha:0≤x.a∧x.a≤20000) (hb:0≤x.b∧x.b≤20000):Pure Tryz.prog 83 [Tk.av f p m,x.av] (fun v=>v=.bool (decide (bendP f x))):=by
  have h1:=hf.len;have h2:=hf.axles;have h3:=hf.wid;have h4:=hf.turn
  have e:(2 * x.a+f.wid+1).tdiv 2=(2 * x.a+f.wid+1) / 2:=Int.tdiv_eq_ediv_of_nonneg (by omega)
  have s1:=mul_bd (k:=4 * x.b) (x:=x.b) (K:=80000) (A:=20000) (by omega) (by omega)
  intro h
  refine ACalls.forget (ACalls.of tab mixed Tryz.call83 Tryz.func83 rfl (fi:=⟨31,[],[2,3],none,[(3,[0,0,3,0,8,24,0,64,248,511,1023],[(0,false),(1,false),(3,false),(4,true),(5,false),(6,false),(7,true),(8,false),(2,false),(9,false),(10,false)])]⟩) rfl rfl (Nat.le_of_ble_eq_true rfl) (by decide) ?_)
  unfold startA
  simp only[go_sem]
  repeat' (first|refine st_seq_reg rfl (by first|(simp only[go_sem,e];rfl)|rfl) (by first|(simp only[go_sem,e];rfl)|rfl) ?_|refine st_seq_draw rfl (by first|(simp only[go_sem,e];rfl)|rfl) (by first|(simp only[go_sem,e];rfl)|rfl) ?_|refine st_op ?_|refine st_det rfl (by simp (disch:=omega) only[go_sem,wr_i64,if_yes,if_no,↓reduceIte,reduceAdd,reduceMul,reduceEqDiff,Nat.reduceBEq,reduceLeDiff,e];rfl) ?_|refine st_dop rfl ?_|(refine st_pureV (by first|(simp only[go_sem,e];rfl)|rfl) (by first|(simp (disch:=omega) only[go_sem,e];rfl)|rfl) rfl (c100 f p m (bR f x) hf (by unfold bR;omega)) (by first|(simp only[go_sem,e];rfl)|rfl) (by intro n;first|(simp (disch:=omega) only[go_sem];rfl)|rfl) ?_;intro v n hv hn;subst hv)|refine st_nil ?_|refine st_dnil ?_|refine st_ret ?_)
  simp (disch:=omega) only[AEnd,Tryz.results83,aresK,fin,go_sem,↓reduceIte,reduceEqDiff,reduceAdd,reduceLeDiff,if_yes,if_no,implies_true,true_and,and_true,List.reverse_cons,List.reverse_nil]
  rfl
theorem base_bd {f:Fl} (hf:FlOk f):0≤f.rear - f.front∧f.rear - f.front≤3000:=by have h1:=hf.len;have h2:=hf.axles;omega
def brP (l:(Int→Int)→Fl→Int→Int→Int) (f:Fl) (p m:Int) (x:Hu):Prop:=l oneA f p m≤x.a∧max (l (frontA f) f p m) (l (rearA f) f p m)≤x.b * (f.rear - f.front)
instance (l:(Int→Int)→Fl→Int→Int→Int) (f:Fl) (p m:Int) (x:Hu):Decidable (brP l f p m x):=by unfold brP;infer_instance
theorem c85a (f:Fl) (p m:Int) (x:Hu) (hf:FlOk f) (hp:0≤p∧p≤3000) (hm:0≤m∧m≤100000) (hx:HuOk x):Pure Tryz.prog 85 [.int .i64 0,.iptr (Tk.av f p m).cells 0,.iptr x.row 0] (fun v=>v=.bool (decide (brP wL f p m x))):=by
  have s1:=mul_bd hx.b (A:=3000) (x:=f.rear - f.front) (by have:=base_bd hf;omega)
  intro h
  refine ACalls.forget (ACalls.of tab mixed Tryz.call85 Tryz.func85 rfl (fi:=⟨29,[],[],none,[(1,[0,1,0,7,0,16,63,127,255,511,255,2047,255,5119,255,29695,65535,255,131327,255,537599,1979391,4194303,8388607,16777215],[(0,true),(2,false),(4,false),(5,true),(1,false),(3,false),(6,false),(7,false),(8,true),(10,false),(12,true),(14,false),(17,false),(18,true),(19,true),(9,false),(11,false),(13,false),(15,false),(16,false),(20,false),(21,false),(22,false),(23,false),(24,false)])]⟩) rfl rfl (Nat.le_of_ble_eq_true rfl) (by decide) ?_)
  unfold startA
  simp only[go_sem]
  repeat' (first|refine st_seq_reg rfl (by first|(simp only[go_sem];rfl)|rfl) (by first|(simp only[go_sem];rfl)|rfl) ?_|refine st_seq_draw rfl (by first|(simp only[go_sem];rfl)|rfl) (by first|(simp only[go_sem];rfl)|rfl) ?_|refine st_op ?_|refine st_det rfl (by simp (disch:=omega) only[go_sem,wr_i64,if_yes,if_no,↓reduceIte,reduceAdd,reduceMul,reduceEqDiff,Nat.reduceBEq,reduceLeDiff];rfl) ?_|refine st_dop rfl ?_|(refine st_pureE (by first|(simp (disch:=omega) only[go_sem];rfl)|rfl) rfl (c86 f p m hf hp hm) (by first|(simp only[go_sem];rfl)|rfl) (by intro n;first|(simp (disch:=omega) only[go_sem];rfl)|rfl) ?_;intro n hn)|(refine st_pureE (by first|(simp (disch:=omega) only[go_sem];rfl)|rfl) rfl (c44 f p m hf hp hm) (by first|(simp only[go_sem];rfl)|rfl) (by intro n;first|(simp (disch:=omega) only[go_sem];rfl)|rfl) ?_;intro n hn)|(refine st_pureE (by first|(simp (disch:=omega) only[go_sem];rfl)|rfl) rfl (c45 f p m hf hp hm) (by first|(simp only[go_sem];rfl)|rfl) (by intro n;first|(simp (disch:=omega) only[go_sem];rfl)|rfl) ?_;intro n hn)|(refine st_pureE (by first|(simp (disch:=omega) only[go_sem];rfl)|rfl) rfl (c42 f p m hf) (by first|(simp only[go_sem];rfl)|rfl) (by intro n;first|(simp (disch:=omega) only[go_sem];rfl)|rfl) ?_;intro n hn)|refine st_dgT rfl rfl rfl rfl ?_|refine st_dgF rfl rfl rfl ?_|(refine st_dgS rfl rfl ?_ ?_ <;> intro hg <;> (try simp only[decide_eq_true_eq,decide_eq_false_iff_not,Bool.not_eq_true',Bool.not_eq_false'] at hg))|refine st_nil ?_|refine st_dnil ?_|refine st_ret ?_)
  all_goals
    simp (disch:=omega) only[AEnd,Tryz.results85,aresK,fin,go_sem,↓reduceIte,reduceEqDiff,reduceAdd,reduceLeDiff,if_yes,if_no,implies_true,true_and,and_true,List.reverse_cons,List.reverse_nil]
    all_goals simp [brP, *]
theorem c85b (f:Fl) (p m:Int) (x:Hu) (hf:FlOk f) (hp:0≤p∧p≤3000) (hm:0≤m∧m≤100000) (hx:HuOk x):Pure Tryz.prog 85 [.int .i64 1,.iptr (Tk.av f p m).cells 0,.iptr x.row 0] (fun v=>v=.bool (decide (brP wH f p m x))):=by
  have s1:=mul_bd hx.b (A:=3000) (x:=f.rear - f.front) (by have:=base_bd hf;omega)
  intro h
  refine ACalls.forget (ACalls.of tab mixed Tryz.call85 Tryz.func85 rfl (fi:=⟨29,[],[],none,[(1,[0,1,0,7,0,16,63,127,255,511,255,2047,255,5119,255,29695,65535,255,131327,255,537599,1979391,4194303,8388607,16777215],[(0,true),(2,false),(4,false),(5,true),(1,false),(3,false),(6,false),(7,false),(8,true),(10,false),(12,true),(14,false),(17,false),(18,true),(19,true),(9,false),(11,false),(13,false),(15,false),(16,false),(20,false),(21,false),(22,false),(23,false),(24,false)])]⟩) rfl rfl (Nat.le_of_ble_eq_true rfl) (by decide) ?_)
  unfold startA
  simp only[go_sem]
  repeat' (first|refine st_seq_reg rfl (by first|(simp only[go_sem];rfl)|rfl) (by first|(simp only[go_sem];rfl)|rfl) ?_|refine st_seq_draw rfl (by first|(simp only[go_sem];rfl)|rfl) (by first|(simp only[go_sem];rfl)|rfl) ?_|refine st_op ?_|refine st_det rfl (by simp (disch:=omega) only[go_sem,wr_i64,if_yes,if_no,↓reduceIte,reduceAdd,reduceMul,reduceEqDiff,Nat.reduceBEq,reduceLeDiff];rfl) ?_|refine st_dop rfl ?_|(refine st_pureE (by first|(simp (disch:=omega) only[go_sem];rfl)|rfl) rfl (c86 f p m hf hp hm) (by first|(simp only[go_sem];rfl)|rfl) (by intro n;first|(simp (disch:=omega) only[go_sem];rfl)|rfl) ?_;intro n hn)|(refine st_pureE (by first|(simp (disch:=omega) only[go_sem];rfl)|rfl) rfl (c44 f p m hf hp hm) (by first|(simp only[go_sem];rfl)|rfl) (by intro n;first|(simp (disch:=omega) only[go_sem];rfl)|rfl) ?_;intro n hn)|(refine st_pureE (by first|(simp (disch:=omega) only[go_sem];rfl)|rfl) rfl (c45 f p m hf hp hm) (by first|(simp only[go_sem];rfl)|rfl) (by intro n;first|(simp (disch:=omega) only[go_sem];rfl)|rfl) ?_;intro n hn)|(refine st_pureE (by first|(simp (disch:=omega) only[go_sem];rfl)|rfl) rfl (c42 f p m hf) (by first|(simp only[go_sem];rfl)|rfl) (by intro n;first|(simp (disch:=omega) only[go_sem];rfl)|rfl) ?_;intro n hn)|refine st_dgT rfl rfl rfl rfl ?_|refine st_dgF rfl rfl rfl ?_|(refine st_dgS rfl rfl ?_ ?_ <;> intro hg <;> (try simp only[decide_eq_true_eq,decide_eq_false_iff_not,Bool.not_eq_true',Bool.not_eq_false'] at hg))|refine st_nil ?_|refine st_dnil ?_|refine st_ret ?_)
  all_goals
    simp (disch:=omega) only[AEnd,Tryz.results85,aresK,fin,go_sem,↓reduceIte,reduceEqDiff,reduceAdd,reduceLeDiff,if_yes,if_no,implies_true,true_and,and_true,List.reverse_cons,List.reverse_nil]
    all_goals simp [brP, *]
def pV (f:Fl) (p m:Int) (x:Hu):Int :=
  if x.kind=1 then (if bendP f x then 1 else 2)
  else if x.kind=2 then (if th f.high f.loads≤x.a then 1 else if tl f.high f.loads≤x.a then 3 else 2)
  else (if brP wH f p m x then 1 else if brP wL f p m x then 3 else 2)
theorem c68 (f:Fl) (p m:Int) (x:Hu) (hf:FlOk f) (hp:0≤p∧p≤3000) (hm:0≤m∧m≤100000) (hx:HuOk x):Pure Tryz.prog 68 [Tk.av f p m,x.av] (fun v=>v=.int .i64 (pV f p m x)):=by
  have ha:=hx.a;have hb:=hx.b;have hc:=hx.bend
  intro h
  refine ACalls.forget (ACalls.of tab mixed Tryz.call68 Tryz.func68 rfl (fi:=⟨39,[7],[2,3],none,[(10,[0,1,0,4,15,0,32,0,128,480,31,2047],[(0,false),(1,true),(2,false),(3,true),(4,false),(5,false),(6,true),(7,false),(8,true),(9,false),(10,false),(11,false)])]⟩) rfl rfl (Nat.le_of_ble_eq_true rfl) (by decide) ?_)
  unfold startA
  simp only[go_sem]
  repeat' (first|refine st_seq_reg rfl (by first|(simp only[go_sem];rfl)|rfl) (by first|(simp only[go_sem];rfl)|rfl) ?_|refine st_reg rfl (by first|(simp only[go_sem];rfl)|rfl) (by first|(simp only[go_sem];rfl)|rfl) ?_|refine st_draw rfl (by first|(simp only[go_sem];rfl)|rfl) (by first|(simp only[go_sem];rfl)|rfl) ?_|refine st_op ?_|refine st_det rfl (by simp (disch:=omega) only[go_sem,wr_i64,if_yes,if_no,↓reduceIte,reduceAdd,reduceMul,reduceEqDiff,Nat.reduceBEq,reduceLeDiff];rfl) ?_|refine st_dop rfl ?_|refine st_loc rfl (by simp (disch:=omega) only[go_sem,wr_i64,if_yes,if_no,↓reduceIte,reduceAdd,reduceMul,reduceEqDiff,Nat.reduceBEq,reduceLeDiff];rfl) ?_|refine st_store (by simp (disch:=omega) only[go_sem,wr_i64,if_yes,if_no,↓reduceIte,reduceAdd,reduceMul,reduceEqDiff,Nat.reduceBEq,reduceLeDiff];rfl) ?_|(refine st_pureE (by first|(simp (disch:=omega) only[go_sem];rfl)|rfl) rfl (c83 f p m x hf (by omega) (by omega)) (by first|(simp only[go_sem];rfl)|rfl) (by intro n;first|(simp (disch:=omega) only[go_sem];rfl)|rfl) ?_;intro n hn)|(refine st_pureE (by first|(simp (disch:=omega) only[go_sem];rfl)|rfl) rfl (c84 f p m hf) (by first|(simp only[go_sem];rfl)|rfl) (by intro n;first|(simp (disch:=omega) only[go_sem];rfl)|rfl) ?_;intro n hn)|(refine st_pureV (by first|(simp only[go_sem];rfl)|rfl) (by first|(simp (disch:=omega) only[go_sem];rfl)|rfl) rfl (c85a f p m x hf hp hm hx) (by first|(simp only[go_sem];rfl)|rfl) (by intro n;first|(simp (disch:=omega) only[go_sem];rfl)|rfl) ?_;intro v n hv hn;subst hv)|(refine st_pureV (by first|(simp only[go_sem];rfl)|rfl) (by first|(simp (disch:=omega) only[go_sem];rfl)|rfl) rfl (c85b f p m x hf hp hm hx) (by first|(simp only[go_sem];rfl)|rfl) (by intro n;first|(simp (disch:=omega) only[go_sem];rfl)|rfl) ?_;intro v n hv hn;subst hv)|(refine st_pureE (by first|(simp (disch:=omega) only[go_sem];rfl)|rfl) rfl (c71 _ _) (by first|(simp only[go_sem];rfl)|rfl) (by intro n;first|(simp (disch:=omega) only[go_sem];rfl)|rfl) ?_;intro n hn)|(refine st_condS rfl ?_ ?_ <;> intro hg <;> (try simp only[decide_eq_true_eq,decide_eq_false_iff_not,Bool.not_eq_true',Bool.not_eq_false'] at hg))|refine st_nil ?_|refine st_dnil ?_|refine st_tN ?_|refine st_seq ?_|refine st_block ?_|refine st_ret ?_|refine st_bN ?_)
  all_goals
    simp (disch:=omega) only[AEnd,Tryz.results68,aresK,fin,go_sem,↓reduceIte,reduceEqDiff,reduceAdd,reduceLeDiff,if_yes,if_no,implies_true,true_and,and_true,List.reverse_cons,List.reverse_nil]
    all_goals simp [pV, *]
end Go.Proofs.YthpkmcjiobnpgaaGreatDoor
