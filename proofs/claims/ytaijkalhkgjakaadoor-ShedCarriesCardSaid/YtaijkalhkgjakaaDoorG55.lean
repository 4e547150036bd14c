/- Contracts of functions that the claim reaches: what each call gives, told in our own logic. Conditions: those of each theorem. -/
import Derived.Test.YtaijkalhkgjakaaDoorG50
import Derived.Test.YtaijkalhkgjakaaDoorG22
import Derived.Test.YtaijkalhkgjakaaDoorG27
import Derived.Test.YtaijkalhkgjakaaDoorF30
import Derived.Test.YtaijkalhkgjakaaDoorBaseC
open Nat (reduceAdd reduceMul reduceEqDiff reduceLeDiff)
open List (length_map)
set_option linter.all false
set_option linter.unusedSimpArgs false
set_option linter.unusedVariables false
namespace Go.Proofs.YtaijkalhkgjakaaDoor
open Go.Av
attribute [local irreducible] thenA blockA awp awpOps awpD awp1
set_option maxHeartbeats 8000000
set_option maxRecDepth 20000
theorem c23 (b:Nat × Nat):Drum Tryd.prog 23 [.ptr b 0 0] b (fun v=>∃ r:List Hu,v=.lst 3 (r.map Hu.row)∧(r.length:Int)≤2∧∀ x ∈ r,(x.kind=3∧(500≤x.a∧x.a≤6000)∧300≤x.b∧x.b≤6000) ∨ (x.kind=2∧(200≤x.a∧x.a≤800)∧x.b=0)):=by
  refine Drum.give Tryd.call23 fun h x hx hu hold=>?_
  refine ACalls.of tab mixed Tryd.call23 Tryd.func23 rfl (fi:=⟨23,[],[12,20],none,[]⟩) rfl rfl (Nat.le_of_ble_eq_true rfl) (by decide) ?_
  unfold startA
  try simp only[go_sem]
  repeat' (first|refine st_seq_reg rfl (by first|(simp only[go_sem,hx,length_map];rfl)|rfl) (by first|(simp only[go_sem,hx,length_map];rfl)|rfl) ?_|refine st_reg rfl (by first|(simp only[go_sem,hx,length_map];rfl)|rfl) (by first|(simp only[go_sem,hx,length_map];rfl)|rfl) ?_|refine st_op ?_|refine st_det rfl (by simp (disch:=omega) only[go_sem,wr_i64,if_yes,if_no,↓reduceIte,reduceAdd,reduceMul,reduceEqDiff,Nat.reduceBEq,reduceLeDiff,hx,length_map];rfl) ?_|refine st_append (by simp (disch:=omega) only[go_sem,wr_i64,if_yes,if_no,↓reduceIte,reduceAdd,reduceMul,reduceEqDiff,Nat.reduceBEq,reduceLeDiff,hx,length_map];rfl) ?_|(refine st_drum (by first|(simp (disch:=omega) only[go_sem,hx,length_map];rfl)|rfl) rfl (c38 b 2 (by decide)) (by first|(simp (disch:=omega) only[go_sem,hx,length_map];rfl)|rfl|exact put_same _ _ _) (by assumption) (by first|(simp only[go_sem,hx,length_map];rfl)|rfl) (by intro x' n;first|(simp (disch:=omega) only[go_sem];rfl)|rfl) ?_;rintro v x' n hu' ⟨r1,rfl⟩ hn)|(refine st_drum (by first|(simp (disch:=omega) only[go_sem,hx,length_map];rfl)|rfl) rfl (c38 b 3 (by decide)) (by first|(simp (disch:=omega) only[go_sem,hx,length_map];rfl)|rfl|exact put_same _ _ _) (by assumption) (by first|(simp only[go_sem,hx,length_map];rfl)|rfl) (by intro x' n;first|(simp (disch:=omega) only[go_sem];rfl)|rfl) ?_;rintro v x' n hu' ⟨r2,rfl⟩ hn)|(refine st_drum (by first|(simp (disch:=omega) only[go_sem,hx,length_map];rfl)|rfl) rfl (c40' b 500 6000 (by decide) (by decide)) (by first|(simp (disch:=omega) only[go_sem,hx,length_map];rfl)|rfl|exact put_same _ _ _) (by assumption) (by first|(simp only[go_sem,hx,length_map];rfl)|rfl) (by intro x' n;first|(simp (disch:=omega) only[go_sem];rfl)|rfl) ?_;rintro v x' n hu' ⟨a1,rfl,ha1⟩ hn)|(refine st_drum (by first|(simp (disch:=omega) only[go_sem,hx,length_map];rfl)|rfl) rfl (c40' b 300 6000 (by decide) (by decide)) (by first|(simp (disch:=omega) only[go_sem,hx,length_map];rfl)|rfl|exact put_same _ _ _) (by assumption) (by first|(simp only[go_sem,hx,length_map];rfl)|rfl) (by intro x' n;first|(simp (disch:=omega) only[go_sem];rfl)|rfl) ?_;rintro v x' n hu' ⟨a2,rfl,ha2⟩ hn)|(refine st_drum (by first|(simp (disch:=omega) only[go_sem,hx,length_map];rfl)|rfl) rfl (c40' b 200 800 (by decide) (by decide)) (by first|(simp (disch:=omega) only[go_sem,hx,length_map];rfl)|rfl|exact put_same _ _ _) (by assumption) (by first|(simp only[go_sem,hx,length_map];rfl)|rfl) (by intro x' n;first|(simp (disch:=omega) only[go_sem];rfl)|rfl) ?_;rintro v x' n hu' ⟨a3,rfl,ha3⟩ hn)|(refine st_condS rfl ?_ ?_ <;> intro hg <;> (try simp only[decide_eq_true_eq,decide_eq_false_iff_not,Bool.not_eq_true',Bool.not_eq_false'] at hg))|refine st_nil ?_|refine st_tN ?_|refine st_seq ?_|refine st_skip ?_|refine st_ret ?_)
  · simp (disch:=omega) only[AEnd,Tryd.results23,aresK,fin,go_sem,↓reduceIte,reduceEqDiff,reduceAdd,reduceLeDiff,if_yes,if_no,implies_true,true_and,and_true,List.reverse_cons,List.reverse_nil]
    refine ⟨fun b' q1 q2=>by
      repeat' split
      all_goals first|rfl|(rename_i e;exfalso;first|exact q2 e|(rw [e] at q1;dsimp only at q1;omega))|(rename_i e _;exfalso;first|exact q2 e|(rw [e] at q1;dsimp only at q1;omega)),⟨_,rfl,by assumption⟩,.inr ⟨(_,21),⟨3,([⟨3,a1,a2⟩,⟨2,a3,0⟩]:List Hu).map Hu.row⟩,?_,if_pos rfl,[⟨3,a1,a2⟩,⟨2,a3,0⟩],?_,by simp,by intro y hy;simp only[List.mem_cons,List.not_mem_nil,or_false] at hy;rcases hy with rfl|rfl <;> dsimp only <;> omega⟩⟩
    · dsimp only;omega
    · simp [frz]
  · simp (disch:=omega) only[AEnd,Tryd.results23,aresK,fin,go_sem,↓reduceIte,reduceEqDiff,reduceAdd,reduceLeDiff,if_yes,if_no,implies_true,true_and,and_true,List.reverse_cons,List.reverse_nil]
    refine ⟨fun b' q1 q2=>by
      repeat' split
      all_goals first|rfl|(rename_i e;exfalso;first|exact q2 e|(rw [e] at q1;dsimp only at q1;omega))|(rename_i e _;exfalso;first|exact q2 e|(rw [e] at q1;dsimp only at q1;omega)),⟨_,rfl,by assumption⟩,.inr ⟨(_,13),⟨3,([⟨3,a1,a2⟩]:List Hu).map Hu.row⟩,?_,(if_neg (fun e=>by rw [← e] at hold;dsimp only at hold;omega)).trans (if_pos rfl),[⟨3,a1,a2⟩],?_,by simp,by intro y hy;simp only[List.mem_cons,List.not_mem_nil,or_false] at hy;rcases hy with rfl <;> dsimp only <;> omega⟩⟩
    · dsimp only;omega
    · simp [frz]
  · simp (disch:=omega) only[AEnd,Tryd.results23,aresK,fin,go_sem,↓reduceIte,reduceEqDiff,reduceAdd,reduceLeDiff,if_yes,if_no,implies_true,true_and,and_true,List.reverse_cons,List.reverse_nil]
    refine ⟨fun b' q1 q2=>by
      repeat' split
      all_goals first|rfl|(rename_i e;exfalso;first|exact q2 e|(rw [e] at q1;dsimp only at q1;omega))|(rename_i e _;exfalso;first|exact q2 e|(rw [e] at q1;dsimp only at q1;omega)),⟨_,rfl,by assumption⟩,.inr ⟨(_,21),⟨3,([⟨2,a3,0⟩]:List Hu).map Hu.row⟩,?_,if_pos rfl,[⟨2,a3,0⟩],?_,by simp,by intro y hy;simp only[List.mem_cons,List.not_mem_nil,or_false] at hy;rcases hy with rfl <;> dsimp only <;> omega⟩⟩
    · dsimp only;omega
    · simp [frz]
  · simp (disch:=omega) only[AEnd,Tryd.results23,aresK,fin,go_sem,↓reduceIte,reduceEqDiff,reduceAdd,reduceLeDiff,if_yes,if_no,implies_true,true_and,and_true,List.reverse_cons,List.reverse_nil]
    exact ⟨fun b' q1 q2=>by
      repeat' split
      all_goals first|rfl|(rename_i e;exfalso;first|exact q2 e|(rw [e] at q1;dsimp only at q1;omega))|(rename_i e _;exfalso;first|exact q2 e|(rw [e] at q1;dsimp only at q1;omega)),⟨_,rfl,by assumption⟩,.inl ⟨_,VLe.nils 3,[],rfl,by decide,fun y hy=>by cases hy⟩⟩
theorem bvs_get {l:List (List Bool)} {i:Nat} (h:i < l.length):(l.map bvs).getD i []=[.lst 1 ((l.getD i []).map bv)]:=by
  simp [List.getD_eq_getElem?_getD,h,bvs]
theorem _root_.Go.Av.Pure.le {P:Program} {f:FuncId} {args:List AV} {a b:AV} (H:Pure P f args (fun v=>v=a)) (h:VLe a b):Pure P f args (fun v=>v=b):=fun g =>
  ((H g).mono (Q':=fun v h'=>(∃ v',VLe v v'∧(Later g h'∧v'=b)) ∨ ∃ b2 k,h'.at_ b2=some k∧g.at_ b2=none∧(Later g (h'.put b2 none)∧frz b2 k v=b)) (fun v h' q=>.inl ⟨b,by rw [q.2];exact h,q.1,rfl⟩)).give
theorem route_ok {r:List Hu} (hl:(r.length:Int)≤2) (h:∀ x ∈ r,(x.kind=3∧(500≤x.a∧x.a≤6000)∧300≤x.b∧x.b≤6000) ∨ (x.kind=2∧(200≤x.a∧x.a≤800)∧x.b=0)):routeE r=0:=by
  unfold routeE
  rw [if_neg (by omega)]
  clear hl
  induction r with
  | nil=>rfl
  | cons x r ih =>
    have hx:hurdleE x=0:=by
      unfold hurdleE
      rcases h x (by simp) with ⟨a,b,c⟩|⟨a,b,c⟩
      · rw [if_neg (by omega),if_neg (by omega),if_pos a,if_neg (by omega)]
      · rw [if_neg (by omega),if_pos a,if_neg (by omega),if_neg (by omega)]
    simp only[hurdlesE]
    rw [if_neg (fun q=>q hx)]
    exact ih fun y hy=>h y (by simp [hy])
theorem fitsD_len (r:List Hu) (fs:List Fl) (ds:List (List Ld)):(fitsD r fs ds).length=fs.length∧∀ i,i < (fitsD r fs ds).length→((fitsD r fs ds).getD i []).length=ds.length:=by
  refine ⟨by simp [fitsD],fun i hi=>?_⟩
  have hi':i < fs.length:=by simpa [fitsD] using hi
  simp [fitsD,List.getD_eq_getElem?_getD,hi']
def tr (ks ts:List Int):AV:=.agg [.lst 1 (ks.map iv),.lst 1 (ts.map iv)]
@[go_sem] theorem tr_eq (ks ts:List Int):tr ks ts=.agg [.lst 1 (ks.map iv),.lst 1 (ts.map iv)]:=rfl
def sumN (s:Int) (ks:List Int):Nat→Int
  | 0=>s
  | i+1=>sumN s ks i+ks.getD i 0
def tallN (ts:List Int) (s:Int):Nat→Int
  | 0=>s
  | i+1=>max (tallN ts s i) (ts.getD i 0)
def carN (arm:Int→Int) (s:Int) (ls:List Ld) (ks:List Int):Nat→Int
  | 0=>s
  | i+1=>carN arm s ls ks i+ks.getD i 0 * arm (ld ls i).at_
def KsOk (ks:List Int):Prop:=ks.length≤30∧∀ i,i < ks.length→0≤ks.getD i 0∧ks.getD i 0≤100000
theorem sumN_bd {s:Int} {ks:List Int} (h:KsOk ks):∀ i,i≤ks.length→s≤sumN s ks i∧sumN s ks i≤s+100000 * i:=by
  intro i
  induction i with
  | zero=>intro _;simp [sumN]
  | succ i ih =>
    intro hi
    have h1:=ih (by omega)
    have h2:=h.2 i (by omega)
    unfold sumN;omega
theorem carN_bd {arm:Int→Int} {s:Int} {ls:List Ld} {ks:List Int} (h:KsOk ks) (hl:ks.length≤ls.length) (hx:∀ x ∈ ls,LdOk x) (hb:∀ a,0≤a→a≤3000→-3000≤arm a∧arm a≤3000):∀ i,i≤ks.length→s - 300000000 * i≤carN arm s ls ks i∧carN arm s ls ks i≤s+300000000 * i:=by
  intro i
  induction i with
  | zero=>intro _;simp [carN]
  | succ i ih =>
    intro hi
    have h1:=ih (by omega)
    have h2:=h.2 i (by omega)
    have h3:=hx _ (ld_mem (l:=ls) (i:=i) (by omega))
    unfold LdOk at h3
    have h4:=mul_bd (K:=100000) h2 (hb (ld ls i).at_ (by omega) (by omega))
    unfold carN;omega
theorem c78 (f:Fl) (ks ts:List Int) (hf:FlOk f) (hk:KsOk ks):Pure Tryd.prog 78 [f.av,tr ks ts] (fun v=>v=.int .i64 (sumN f.kilos ks ks.length)):=by
  have h1:=hf.kilos;have h2:=hk.1
  have sb:=fun i h=>sumN_bd (s:=f.kilos) hk i h
  intro h
  refine ACalls.forget (ACalls.of tab mixed Tryd.call78 Tryd.func78 rfl (fi:=⟨24,[],[2,3],none,[]⟩) rfl rfl (Nat.le_of_ble_eq_true rfl) (by decide) ?_)
  unfold startA
  simp only[go_sem]
  repeat' (first|refine st_seq_reg rfl (by first|(simp only[go_sem];rfl)|rfl) (by first|(simp only[go_sem];rfl)|rfl) ?_|refine st_op ?_|refine st_det rfl (by simp (disch:=omega) only[go_sem,wr_i64,if_yes,if_no,↓reduceIte,reduceAdd,reduceMul,reduceEqDiff,Nat.reduceBEq,reduceLeDiff];rfl) ?_|refine st_nil ?_|refine st_seq ?_|refine st_block ?_)
  refine st_loopC (α:=Nat) tab mixed [] [] (by repeat (first|exact trivial|refine ⟨rfl,?_⟩)) [] [] (by repeat (first|exact trivial|refine ⟨rfl,?_⟩)) (fun i=>[(6,.int .i64 i),(5,.int .i64 (sumN f.kilos ks i))]) [(3,_),(4,_)] (fun _=>[]) [] (fun i=>i≤ks.length) (fun i=>ks.length - i) (by decide) 0 (by omega) (by (try simp only[go_sem]);repeat' (first|exact trivial|refine And.intro ?_ ?_|rfl|(simp (disch:=omega) only[go_sem,if_yes,if_no,↓reduceIte,reduceAdd,reduceMul,reduceEqDiff,Nat.reduceBEq,reduceLeDiff];rfl)|(simp (disch:=omega) only[go_sem,if_yes,if_no,↓reduceIte,reduceAdd,reduceMul,reduceEqDiff,Nat.reduceBEq,reduceLeDiff]))) (by (try simp only[go_sem]);repeat' (first|exact trivial|refine And.intro ?_ ?_|rfl|(simp (disch:=omega) only[go_sem,if_yes,if_no,↓reduceIte,reduceAdd,reduceMul,reduceEqDiff,Nat.reduceBEq,reduceLeDiff];rfl)|(simp (disch:=omega) only[go_sem,if_yes,if_no,↓reduceIte,reduceAdd,reduceMul,reduceEqDiff,Nat.reduceBEq,reduceLeDiff]))) (by first|(simp only[go_sem];rfl)|rfl) (by intro n;simp only[go_sem];rfl) ?_
  rintro i c hi' hc
  have s1:=sb i hi'
  have s2:i < ks.length→_:=fun h=>hk.2 i h
  simp only[go_sem]
  repeat' (first|refine st_seq_reg rfl (by first|(simp only[go_sem];rfl)|rfl) (by first|(simp only[go_sem];rfl)|rfl) ?_|refine st_reg rfl (by first|(simp only[go_sem];rfl)|rfl) (by first|(simp only[go_sem];rfl)|rfl) ?_|refine st_op ?_|refine st_det rfl (by simp (disch:=omega) only[go_sem,wr_i64,if_yes,if_no,↓reduceIte,reduceAdd,reduceMul,reduceEqDiff,Nat.reduceBEq,reduceLeDiff];rfl) ?_|(refine st_condS rfl ?_ ?_ <;> intro hg <;> (try simp only[decide_eq_true_eq,decide_eq_false_iff_not,Bool.not_eq_true',Bool.not_eq_false'] at hg))|refine st_nil ?_|refine st_tN ?_|refine st_seq ?_|refine st_block ?_|refine st_skip ?_|refine st_exit ?_|refine st_ret ?_|refine st_tE ?_|refine st_bN ?_|refine st_bH ?_)
  · refine ⟨i+1,(by omega),by omega,(by repeat' (first|exact trivial|refine And.intro ?_ ?_|rfl|(simp (disch:=omega) only[go_sem,if_yes,if_no,↓reduceIte,reduceAdd,reduceMul,reduceEqDiff,Nat.reduceBEq,reduceLeDiff];rfl)|(simp (disch:=omega) only[go_sem,if_yes,if_no,↓reduceIte,reduceAdd,reduceMul,reduceEqDiff,Nat.reduceBEq,reduceLeDiff]))),(by repeat' (first|exact trivial|refine And.intro ?_ ?_|rfl|(simp (disch:=omega) only[go_sem,if_yes,if_no,↓reduceIte,reduceAdd,reduceMul,reduceEqDiff,Nat.reduceBEq,reduceLeDiff];rfl)|(simp (disch:=omega) only[go_sem,if_yes,if_no,↓reduceIte,reduceAdd,reduceMul,reduceEqDiff,Nat.reduceBEq,reduceLeDiff]))),rfl,(by first|exact HOld.of _ (by omega)|exact HOld.put _ _ _ (by omega))⟩
  · have e:i=ks.length:=by omega
    subst e
    simp (disch:=omega) only[AEnd,Tryd.results78,aresK,fin,go_sem,↓reduceIte,reduceEqDiff,reduceAdd,reduceLeDiff,if_yes,if_no,implies_true,true_and,and_true,List.reverse_cons,List.reverse_nil]
theorem c77 (f:Fl) (ks ts:List Int) (hl:ts.length≤1000):Pure Tryd.prog 77 [f.av,tr ks ts] (fun v=>v=.int .i64 (tallN ts f.high ts.length)):=by
  intro h
  refine ACalls.forget (ACalls.of tab mixed Tryd.call77 Tryd.func77 rfl (fi:=⟨24,[],[2,3],none,[]⟩) rfl rfl (Nat.le_of_ble_eq_true rfl) (by decide) ?_)
  unfold startA
  simp only[go_sem]
  repeat' (first|refine st_seq_reg rfl (by first|(simp only[go_sem];rfl)|rfl) (by first|(simp only[go_sem];rfl)|rfl) ?_|refine st_op ?_|refine st_det rfl (by simp (disch:=omega) only[go_sem,wr_i64,if_yes,if_no,↓reduceIte,reduceAdd,reduceMul,reduceEqDiff,Nat.reduceBEq,reduceLeDiff];rfl) ?_|refine st_nil ?_|refine st_seq ?_|refine st_block ?_)
  refine st_loopC (α:=Nat) tab mixed [] [] (by repeat (first|exact trivial|refine ⟨rfl,?_⟩)) [] [] (by repeat (first|exact trivial|refine ⟨rfl,?_⟩)) (fun i=>[(6,.int .i64 i),(5,.int .i64 (tallN ts f.high i))]) [(3,_),(4,_)] (fun _=>[]) [] (fun i=>i≤ts.length) (fun i=>ts.length - i) (by decide) 0 (by omega) (by (try simp only[go_sem]);repeat' (first|exact trivial|refine And.intro ?_ ?_|rfl|(simp (disch:=omega) only[go_sem,if_yes,if_no,↓reduceIte,reduceAdd,reduceMul,reduceEqDiff,Nat.reduceBEq,reduceLeDiff];rfl)|(simp (disch:=omega) only[go_sem,if_yes,if_no,↓reduceIte,reduceAdd,reduceMul,reduceEqDiff,Nat.reduceBEq,reduceLeDiff]))) (by (try simp only[go_sem]);repeat' (first|exact trivial|refine And.intro ?_ ?_|rfl|(simp (disch:=omega) only[go_sem,if_yes,if_no,↓reduceIte,reduceAdd,reduceMul,reduceEqDiff,Nat.reduceBEq,reduceLeDiff];rfl)|(simp (disch:=omega) only[go_sem,if_yes,if_no,↓reduceIte,reduceAdd,reduceMul,reduceEqDiff,Nat.reduceBEq,reduceLeDiff]))) (by first|(simp only[go_sem];rfl)|rfl) (by intro n;simp only[go_sem];rfl) ?_
  rintro i c hi' hc
  simp only[go_sem]
  repeat' (first|refine st_seq_reg rfl (by first|(simp only[go_sem];rfl)|rfl) (by first|(simp only[go_sem];rfl)|rfl) ?_|refine st_reg rfl (by first|(simp only[go_sem];rfl)|rfl) (by first|(simp only[go_sem];rfl)|rfl) ?_|refine st_op ?_|refine st_det rfl (by simp (disch:=omega) only[go_sem,wr_i64,if_yes,if_no,↓reduceIte,reduceAdd,reduceMul,reduceEqDiff,Nat.reduceBEq,reduceLeDiff];rfl) ?_|(refine st_condS rfl ?_ ?_ <;> intro hg <;> (try simp only[decide_eq_true_eq,decide_eq_false_iff_not,Bool.not_eq_true',Bool.not_eq_false'] at hg))|refine st_nil ?_|refine st_tN ?_|refine st_seq ?_|refine st_block ?_|refine st_skip ?_|refine st_exit ?_|refine st_ret ?_|refine st_tE ?_|refine st_bN ?_|refine st_bH ?_)
  · refine ⟨i+1,(by omega),by omega,(by repeat' (first|exact trivial|refine And.intro ?_ ?_|rfl|(simp (disch:=omega) only[go_sem,if_yes,if_no,↓reduceIte,reduceAdd,reduceMul,reduceEqDiff,Nat.reduceBEq,reduceLeDiff];rfl)|(simp (disch:=omega) only[go_sem,if_yes,if_no,↓reduceIte,reduceAdd,reduceMul,reduceEqDiff,Nat.reduceBEq,reduceLeDiff]))),(by repeat' (first|exact trivial|refine And.intro ?_ ?_|rfl|(simp (disch:=omega) only[go_sem,if_yes,if_no,↓reduceIte,reduceAdd,reduceMul,reduceEqDiff,Nat.reduceBEq,reduceLeDiff];rfl)|(simp (disch:=omega) only[go_sem,if_yes,if_no,↓reduceIte,reduceAdd,reduceMul,reduceEqDiff,Nat.reduceBEq,reduceLeDiff]))),rfl,(by first|exact HOld.of _ (by omega)|exact HOld.put _ _ _ (by omega))⟩
  · have e:i=ts.length:=by omega
    subst e
    simp (disch:=omega) only[AEnd,Tryd.results77,aresK,fin,go_sem,↓reduceIte,reduceEqDiff,reduceAdd,reduceLeDiff,if_yes,if_no,implies_true,true_and,and_true,List.reverse_cons,List.reverse_nil]
theorem front_bd' {f:Fl} (hf:FlOk f):∀ a,0≤a→a≤3000→-3000≤frontA f a∧frontA f a≤3000:=by
  have h1:=hf.len;have h2:=hf.axles
  intro a _ _;unfold frontA;omega
theorem rear_bd' {f:Fl} (hf:FlOk f):∀ a,0≤a→a≤3000→-3000≤rearA f a∧rearA f a≤3000:=by
  have h1:=hf.len;have h2:=hf.axles
  intro a _ _;unfold rearA;omega
theorem c74 (f:Fl) (ks ts:List Int) (hf:FlOk f) (hk:KsOk ks) (hl:ks.length≤f.loads.length) :
    Pure Tryd.prog 74 [f.av,tr ks ts] (fun v=>v=.tup [.int .i64 (carN (frontA f) (f.kilos * (f.rear - f.mid)) f.loads ks ks.length),.int .i64 (carN (rearA f) (f.kilos * (f.mid - f.front)) f.loads ks ks.length)]):=by
  have h1:=hf.kilos;have h2:=hk.1;have h3:=hf.mid;have h4:=hf.axles;have h5:=hf.len
  have m1:=mul_bd (K:=100000) (A:=3000) (x:=f.rear - f.mid) hf.kilos (by omega)
  have m2:=mul_bd (K:=100000) (A:=3000) (x:=f.mid - f.front) hf.kilos (by omega)
  have d01:=fun i h=>carN_bd (arm:=frontA f) (s:=f.kilos * (f.rear - f.mid)) hk hl hf.loads.2 (front_bd' hf) i h
  have d02:=fun i h=>carN_bd (arm:=rearA f) (s:=f.kilos * (f.mid - f.front)) hk hl hf.loads.2 (rear_bd' hf) i h
  intro h
  refine ACalls.forget (ACalls.of tab mixed Tryd.call74 Tryd.func74 rfl (fi:=⟨65,[],[2,3],none,[(1,[0,1,0,4,0,16,60,127,0,256,0,1024,0,4096,15360,32512,255,131071],[(0,false),(1,true),(2,false),(3,true),(4,false),(5,true),(6,false),(7,false),(8,false),(9,true),(10,false),(11,true),(12,false),(13,true),(14,false),(15,false),(16,false),(17,false)]),(6,[0,0,2,0,14,30,0,64,0,448,1022,2047,0,0,8192,0,57344,122880,0,0,524288,1835008,4186112,8384512,4095,33554431],[(0,false),(1,false),(2,true),(3,false),(4,false),(5,true),(6,false),(7,true),(8,false),(9,false),(10,false),(11,false),(12,false),(13,false),(14,true),(15,false),(16,false),(17,true),(18,false),(19,false),(20,true),(21,false),(22,false),(23,false),(24,false),(25,false)])]⟩) rfl rfl (Nat.le_of_ble_eq_true rfl) (by decide) ?_)
  unfold startA
  simp only[go_sem]
  repeat' (first|refine st_seq_reg rfl (by first|(simp only[go_sem];rfl)|rfl) (by first|(simp only[go_sem];rfl)|rfl) ?_|refine st_seq_draw rfl (by first|(simp only[go_sem];rfl)|rfl) (by first|(simp only[go_sem];rfl)|rfl) ?_|refine st_op ?_|refine st_det rfl (by simp (disch:=omega) only[go_sem,wr_i64,if_yes,if_no,↓reduceIte,reduceAdd,reduceMul,reduceEqDiff,Nat.reduceBEq,reduceLeDiff];rfl) ?_|refine st_dop rfl ?_|refine st_nil ?_|refine st_dnil ?_|refine st_seq ?_|refine st_block ?_)
  refine st_loopC (α:=Nat) tab mixed [] [] (by repeat (first|exact trivial|refine ⟨rfl,?_⟩)) [] [] (by repeat (first|exact trivial|refine ⟨rfl,?_⟩)) (fun i=>[(8,.int .i64 i),(6,.int .i64 (carN (frontA f) (f.kilos * (f.rear - f.mid)) f.loads ks i)),(7,.int .i64 (carN (rearA f) (f.kilos * (f.mid - f.front)) f.loads ks i))]) [(2,_),(3,_),(4,_),(5,_)] (fun _=>[]) [] (fun i=>i≤ks.length) (fun i=>ks.length - i) (by decide) 0 (by omega) (by (try simp only[go_sem]);repeat' (first|exact trivial|refine And.intro ?_ ?_|rfl|(simp (disch:=omega) only[go_sem,if_yes,if_no,↓reduceIte,reduceAdd,reduceMul,reduceEqDiff,Nat.reduceBEq,reduceLeDiff];rfl)|(simp (disch:=omega) only[go_sem,if_yes,if_no,↓reduceIte,reduceAdd,reduceMul,reduceEqDiff,Nat.reduceBEq,reduceLeDiff]))) (by (try simp only[go_sem]);repeat' (first|exact trivial|refine And.intro ?_ ?_|rfl|(simp (disch:=omega) only[go_sem,if_yes,if_no,↓reduceIte,reduceAdd,reduceMul,reduceEqDiff,Nat.reduceBEq,reduceLeDiff];rfl)|(simp (disch:=omega) only[go_sem,if_yes,if_no,↓reduceIte,reduceAdd,reduceMul,reduceEqDiff,Nat.reduceBEq,reduceLeDiff]))) (by first|(simp only[go_sem];rfl)|rfl) (by intro n;simp only[go_sem];rfl) ?_
  rintro i c hi' hc
  have d1:=d01 i hi'
  have d2:=d02 i hi'
  have hx:i < ks.length→LdOk (ld f.loads i):=fun h=>hf.loads.2 _ (ld_mem (by omega))
  have d3:i < ks.length→0≤(ld f.loads i).at_∧(ld f.loads i).at_≤3000:=fun h=>⟨(hx h).1,(hx h).2.1⟩
  have d4:i < ks.length→_:=fun h=>mul_bd (K:=100000) (A:=3000) (x:=f.rear - (ld f.loads i).at_) (hk.2 i h) (by have:=d3 h;omega)
  have d5:i < ks.length→_:=fun h=>mul_bd (K:=100000) (A:=3000) (x:=(ld f.loads i).at_ - f.front) (hk.2 i h) (by have:=d3 h;omega)
  simp only[go_sem]
  repeat' (first|refine st_seq_reg rfl (by first|(simp only[go_sem];rfl)|rfl) (by first|(simp only[go_sem];rfl)|rfl) ?_|refine st_reg rfl (by first|(simp only[go_sem];rfl)|rfl) (by first|(simp only[go_sem];rfl)|rfl) ?_|refine st_draw rfl (by first|(simp only[go_sem];rfl)|rfl) (by first|(simp only[go_sem];rfl)|rfl) ?_|refine st_op ?_|refine st_det rfl (by simp (disch:=omega) only[go_sem,wr_i64,if_yes,if_no,↓reduceIte,reduceAdd,reduceMul,reduceEqDiff,Nat.reduceBEq,reduceLeDiff];rfl) ?_|refine st_dop rfl ?_|(refine st_condS rfl ?_ ?_ <;> intro hg <;> (try simp only[decide_eq_true_eq,decide_eq_false_iff_not,Bool.not_eq_true',Bool.not_eq_false'] at hg))|refine st_nil ?_|refine st_dnil ?_|refine st_tN ?_|refine st_seq ?_|refine st_block ?_|refine st_skip ?_|refine st_exit ?_|refine st_ret ?_|refine st_tE ?_|refine st_bN ?_|refine st_bH ?_)
  · refine ⟨i+1,(by omega),by omega,(by repeat' (first|exact trivial|refine And.intro ?_ ?_|rfl|(simp (disch:=omega) only[go_sem,if_yes,if_no,↓reduceIte,reduceAdd,reduceMul,reduceEqDiff,Nat.reduceBEq,reduceLeDiff];rfl)|(simp (disch:=omega) only[go_sem,if_yes,if_no,↓reduceIte,reduceAdd,reduceMul,reduceEqDiff,Nat.reduceBEq,reduceLeDiff]))),(by repeat' (first|exact trivial|refine And.intro ?_ ?_|rfl|(simp (disch:=omega) only[go_sem,if_yes,if_no,↓reduceIte,reduceAdd,reduceMul,reduceEqDiff,Nat.reduceBEq,reduceLeDiff];rfl)|(simp (disch:=omega) only[go_sem,if_yes,if_no,↓reduceIte,reduceAdd,reduceMul,reduceEqDiff,Nat.reduceBEq,reduceLeDiff]))),rfl,(by first|exact HOld.of _ (by omega)|exact HOld.put _ _ _ (by omega))⟩
  · have e:i=ks.length:=by omega
    subst e
    simp (disch:=omega) only[AEnd,Tryd.results74,aresK,fin,go_sem,↓reduceIte,reduceEqDiff,reduceAdd,reduceLeDiff,if_yes,if_no,implies_true,true_and,and_true,List.reverse_cons,List.reverse_nil]
theorem tdiv_bd' {n d B:Int} (hn:-B≤n∧n≤B) (hd:1≤d):-B≤n.tdiv d∧n.tdiv d≤B:=by
  have h:(n.tdiv d).natAbs=n.natAbs / d.natAbs:=Int.natAbs_tdiv n d
  have h2:n.natAbs / d.natAbs≤n.natAbs:=Nat.div_le_self _ _
  omega
def dnI (n d:Int):Int:=if n.tmod d < 0 then n.tdiv d - 1 else n.tdiv d
def uI (n d:Int):Int:=-(dnI (-n) d)
theorem c110 (n d:Int) (hn:-100000000000≤n∧n≤100000000000) (hd:1≤d∧d≤100000):Pure Tryd.prog 110 [.int .i64 n,.int .i64 d] (fun v=>v=.int .i64 (dnI n d)):=by
  have hb:=tdiv_bd' hn hd.1
  intro h
  refine ACalls.forget (ACalls.of tab mixed Tryd.call110 Tryd.func110 rfl (fi:=⟨16,[],[],none,[]⟩) rfl rfl (Nat.le_of_ble_eq_true rfl) (by decide) ?_)
  unfold startA
  repeat' (first|refine st_seq_reg rfl (by first|(simp only[go_sem];rfl)|rfl) (by first|(simp only[go_sem];rfl)|rfl) ?_|refine st_reg rfl (by first|(simp only[go_sem];rfl)|rfl) (by first|(simp only[go_sem];rfl)|rfl) ?_|refine st_op ?_|refine st_det rfl (by simp (disch:=omega) only[go_sem,wr_i64,if_yes,if_no,↓reduceIte,reduceAdd,reduceMul,reduceEqDiff,Nat.reduceBEq,reduceLeDiff];rfl) ?_|(refine st_condS rfl ?_ ?_ <;> intro hg <;> (try simp only[decide_eq_true_eq,decide_eq_false_iff_not,Bool.not_eq_true',Bool.not_eq_false'] at hg))|refine st_nil ?_|refine st_tN ?_|refine st_seq ?_|refine st_skip ?_|refine st_ret ?_)
  all_goals
    simp (disch:=omega) only[AEnd,Tryd.results110,aresK,fin,go_sem,↓reduceIte,reduceEqDiff,reduceAdd,reduceLeDiff,if_yes,if_no,implies_true,true_and,and_true,List.reverse_cons,List.reverse_nil]
    all_goals simp [dnI, *]
theorem c76 (n d:Int) (hn:-100000000000≤n∧n≤100000000000) (hd:1≤d∧d≤100000):Pure Tryd.prog 76 [.int .i64 n,.int .i64 d] (fun v=>v=.int .i64 (uI n d)):=by
  have hb:=tdiv_bd' (n:=0 - n) (B:=100000000000) (by omega) hd.1
  have hc:-200000000000≤dnI (0 - n) d∧dnI (0 - n) d≤200000000000:=by unfold dnI;split <;> omega
  intro h
  refine ACalls.forget (ACalls.of tab mixed Tryd.call76 Tryd.func76 rfl (fi:=⟨10,[],[],none,[]⟩) rfl rfl (Nat.le_of_ble_eq_true rfl) (by decide) ?_)
  unfold startA
  repeat' (first|refine st_seq_reg rfl (by first|(simp only[go_sem];rfl)|rfl) (by first|(simp only[go_sem];rfl)|rfl) ?_|refine st_op ?_|refine st_det rfl (by simp (disch:=omega) only[go_sem,wr_i64,if_yes,if_no,↓reduceIte,reduceAdd,reduceMul,reduceEqDiff,Nat.reduceBEq,reduceLeDiff];rfl) ?_|(refine st_pureE (by first|(simp (disch:=omega) only[go_sem];rfl)|rfl) rfl (c110 (0 - n) d (by omega) hd) (by first|(simp only[go_sem];rfl)|rfl) (by intro n;first|(simp (disch:=omega) only[go_sem];rfl)|rfl) ?_;intro n hn)|refine st_nil ?_|refine st_ret ?_)
  all_goals
    simp (disch:=omega) only[AEnd,Tryd.results76,aresK,fin,go_sem,↓reduceIte,reduceEqDiff,reduceAdd,reduceLeDiff,if_yes,if_no,implies_true,true_and,and_true,List.reverse_cons,List.reverse_nil]
    all_goals simp [uI]
end Go.Proofs.YtaijkalhkgjakaaDoor
