/- Contracts of functions that the claim reaches: what each call gives, told in our own logic. Conditions: those of each theorem. -/
import Derived.Test.YthpkmcjiobnpgaaGreatDoorX2
import Derived.Test.YthpkmcjiobnpgaaGreatDoorW7
import Derived.Test.YthpkmcjiobnpgaaGreatDoorF1
open Nat (reduceAdd reduceMul reduceEqDiff reduceLeDiff)
open List (length_map)
set_option linter.all false
set_option linter.unusedSimpArgs false
set_option linter.unusedVariables false
namespace Go.Proofs.YthpkmcjiobnpgaaGreatDoor
open Go.Av Go.Txt Go.Lib
attribute [local irreducible] thenA blockA awp awpOps awpD awp1
set_option maxHeartbeats 8000000
set_option maxRecDepth 20000
def rowN (w:List UInt8) (l:List Int):Nat→List UInt8
  | 0=>w
  | i+1=>rowN w l i ++ [32] ++ itoa (l.getD i 0)
theorem rowN_eq {w:List UInt8} {l:List Int}:∀ {i:Nat},i≤l.length→rowN w l i=w ++ numsT (l.take i)
  | 0,_=>by simp [rowN,numsT]
  | i+1,h=>by rw [rowN,rowN_eq (Nat.le_of_lt h),numsT_take h];simp [List.append_assoc]
theorem add_str {tt:Nat→TI} {t:Nat} {c:Bool} {a b:List UInt8} (h:a.length+b.length≤4611686018427387904):abin (tt t) .add c (.str a) (.str b)=some (.str (a ++ b)):=by
  unfold abin;dsimp only;rw [if_pos h]
theorem c34 (word:List UInt8) (l:List Int) (hn:NumOk l) (hw:word.length≤1000):PureG gT Tryz.prog 34 [.str word,.lst 1 (l.map iv)] (fun v=>v=.str (rowT word l)):=by
  intro h hgl
  obtain ⟨hn1,hn2⟩:=hn
  have hlen:∀ i,(numsT (l.take i)).length≤22000000:=fun i=>by
    have:=numsT_len (l:=l.take i) (fun x hx=>hn2 x (List.mem_of_mem_take hx))
    rw [List.length_take] at this
    omega
  refine ACalls.forget (ACalls.of tab mixed Tryz.call34 Tryz.func34 rfl (fi:=⟨22,[],[],none,[]⟩) rfl rfl (Nat.le_of_ble_eq_true rfl) (by decide) ?_)
  unfold startA
  try simp only[go_sem]
  repeat' (first|refine st_seq_reg rfl (by first|(simp only[go_sem,length_map];rfl)|rfl) (by first|(simp only[go_sem,length_map];rfl)|rfl) ?_|refine st_reg rfl (by first|(simp only[go_sem,length_map];rfl)|rfl) (by first|(simp only[go_sem,length_map];rfl)|rfl) ?_|refine st_op ?_|refine st_det rfl (by simp (disch:=omega) only[go_sem,wr_i64,if_yes,if_no,↓reduceIte,reduceAdd,reduceMul,reduceEqDiff,Nat.reduceBEq,reduceLeDiff,length_map];rfl) ?_|refine st_condT rfl ?_|refine st_condF rfl ?_|(refine st_condS rfl ?_ ?_ <;> intro hg <;> (try simp only[decide_eq_true_eq,decide_eq_false_iff_not,Bool.not_eq_true',Bool.not_eq_false'] at hg))|refine st_nil ?_|refine st_tN ?_|refine st_seq ?_|refine st_block ?_|refine st_skip ?_|refine st_exit ?_|refine st_ret ?_|refine st_tE ?_|refine st_tR ?_|refine st_bN ?_|refine st_bR ?_|refine st_bH ?_|refine st_bM rfl ?_)
  refine st_loopC (α:=Nat) tab mixed [] [] (by repeat (first|exact trivial|refine ⟨rfl,?_⟩)) [] [] (by repeat (first|exact trivial|refine ⟨rfl,?_⟩)) (fun i=>[(5,.int .i64 (i:Nat)),(0,.str (rowN word l i))]) [(1,_)] (fun _=>[]) [] (fun i=>i≤l.length) (fun i=>l.length - i) (by decide) 0 (Nat.zero_le _) (by (try simp only[go_sem]);repeat' (first|exact trivial|refine And.intro ?_ ?_|rfl|(simp (disch:=omega) only[go_sem,if_yes,if_no,↓reduceIte,reduceAdd,reduceMul,reduceEqDiff,Nat.reduceBEq,reduceLeDiff];rfl)|(simp (disch:=omega) only[go_sem,if_yes,if_no,↓reduceIte,reduceAdd,reduceMul,reduceEqDiff,Nat.reduceBEq,reduceLeDiff]))) (by (try simp only[go_sem]);repeat' (first|exact trivial|refine And.intro ?_ ?_|rfl|(simp (disch:=omega) only[go_sem,if_yes,if_no,↓reduceIte,reduceAdd,reduceMul,reduceEqDiff,Nat.reduceBEq,reduceLeDiff];rfl)|(simp (disch:=omega) only[go_sem,if_yes,if_no,↓reduceIte,reduceAdd,reduceMul,reduceEqDiff,Nat.reduceBEq,reduceLeDiff]))) (by first|(simp only[go_sem];rfl)|rfl) (by intro n;simp only[go_sem];rfl) ?_
  rintro i c2 hi hc2
  simp only[go_sem]
  have hlt:=hlen i
  have hrl:(rowN word l i).length≤22001000:=by rw [rowN_eq hi,List.length_append];omega
  clear hlt
  by_cases hil:i < l.length
  case neg =>
    obtain rfl:i=l.length:=by omega
    have e1:rowN word l l.length=word ++ numsT l:=by rw [rowN_eq (Nat.le_refl _),List.take_length]
    repeat' (first|refine st_seq_reg rfl (by first|(simp only[go_sem,length_map,add_str,List.length_append,List.length_cons,List.length_nil];rfl)|rfl) (by first|(simp only[go_sem,length_map,add_str,List.length_append,List.length_cons,List.length_nil];rfl)|rfl) ?_|refine st_reg rfl (by first|(simp only[go_sem,length_map,add_str,List.length_append,List.length_cons,List.length_nil];rfl)|rfl) (by first|(simp only[go_sem,length_map,add_str,List.length_append,List.length_cons,List.length_nil];rfl)|rfl) ?_|refine st_op ?_|refine st_det rfl (by simp (disch:=omega) only[go_sem,wr_i64,if_yes,if_no,↓reduceIte,reduceAdd,reduceMul,reduceEqDiff,Nat.reduceBEq,reduceLeDiff,length_map,add_str,List.length_append,List.length_cons,List.length_nil];rfl) ?_|refine st_condT rfl ?_|refine st_condF rfl ?_|(refine st_condS rfl ?_ ?_ <;> intro hg <;> (try simp only[decide_eq_true_eq,decide_eq_false_iff_not,Bool.not_eq_true',Bool.not_eq_false'] at hg))|refine st_nil ?_|refine st_tN ?_|refine st_seq ?_|refine st_block ?_|refine st_skip ?_|refine st_exit ?_|refine st_ret ?_|refine st_tE ?_|refine st_tR ?_|refine st_bN ?_|refine st_bR ?_|refine st_bH ?_|refine st_bM rfl ?_)
    all_goals try (exfalso;omega)
    simp (disch:=omega) only[AEnd,Tryz.results34,aresK,fin,go_sem,↓reduceIte,reduceEqDiff,reduceAdd,reduceLeDiff,if_yes,if_no,implies_true,true_and,and_true,List.reverse_cons,List.reverse_nil]
    rw [e1];rfl
  have hx:=hn2 _ (int_mem hil)
  have hit:=itoa_length_le _ hx.1 hx.2
  repeat' (first|refine st_seq_reg rfl (by first|(simp only[go_sem,length_map,iv_getD hil,add_str,List.length_append,List.length_cons,List.length_nil];rfl)|rfl) (by first|(simp only[go_sem,length_map,iv_getD hil,add_str,List.length_append,List.length_cons,List.length_nil];rfl)|rfl) ?_|refine st_reg rfl (by first|(simp only[go_sem,length_map,iv_getD hil,add_str,List.length_append,List.length_cons,List.length_nil];rfl)|rfl) (by first|(simp only[go_sem,length_map,iv_getD hil,add_str,List.length_append,List.length_cons,List.length_nil];rfl)|rfl) ?_|refine st_op ?_|refine st_det rfl (by simp (disch:=omega) only[go_sem,wr_i64,if_yes,if_no,↓reduceIte,reduceAdd,reduceMul,reduceEqDiff,Nat.reduceBEq,reduceLeDiff,length_map,iv_getD hil,add_str,List.length_append,List.length_cons,List.length_nil];rfl) ?_|(refine st_pureGE (by first|(simp (disch:=omega) only[go_sem,length_map,iv_getD hil,add_str,List.length_append,List.length_cons,List.length_nil];rfl)|rfl) rfl (c30 (l.getD i 0) hx.1 hx.2) (by exact hgl) (by first|(simp only[go_sem,length_map,iv_getD hil,add_str,List.length_append,List.length_cons,List.length_nil];rfl)|rfl) (by intro n;first|(simp (disch:=omega) only[go_sem];rfl)|rfl) ?_;intro n hn)|refine st_condT rfl ?_|refine st_condF rfl ?_|(refine st_condS rfl ?_ ?_ <;> intro hg <;> (try simp only[decide_eq_true_eq,decide_eq_false_iff_not,Bool.not_eq_true',Bool.not_eq_false'] at hg))|refine st_nil ?_|refine st_tN ?_|refine st_seq ?_|refine st_block ?_|refine st_skip ?_|refine st_exit ?_|refine st_ret ?_|refine st_tE ?_|refine st_tR ?_|refine st_bN ?_|refine st_bR ?_|refine st_bH ?_|refine st_bM rfl ?_)
  all_goals try (exfalso;omega)
  refine ⟨i+1,(by omega),by omega,(by repeat' (first|exact trivial|refine And.intro ?_ ?_|rfl|(simp (disch:=omega) only[go_sem,if_yes,if_no,↓reduceIte,reduceAdd,reduceMul,reduceEqDiff,Nat.reduceBEq,reduceLeDiff];rfl)|(simp (disch:=omega) only[go_sem,if_yes,if_no,↓reduceIte,reduceAdd,reduceMul,reduceEqDiff,Nat.reduceBEq,reduceLeDiff]))),(by repeat' (first|exact trivial|refine And.intro ?_ ?_|rfl|(simp (disch:=omega) only[go_sem,if_yes,if_no,↓reduceIte,reduceAdd,reduceMul,reduceEqDiff,Nat.reduceBEq,reduceLeDiff];rfl)|(simp (disch:=omega) only[go_sem,if_yes,if_no,↓reduceIte,reduceAdd,reduceMul,reduceEqDiff,Nat.reduceBEq,reduceLeDiff]))),rfl,(by first|exact HOld.of _ (by omega)|exact HOld.put _ _ _ (by omega))⟩
def accT {α:Type} (b:List UInt8) (f:α→List UInt8) (l:List α) (d:α):Nat→List UInt8
  | 0=>b
  | i+1=>accT b f l d i ++ f (l.getD i d)
theorem accT_eq {α:Type} {b:List UInt8} {f:α→List UInt8} {l:List α} {d:α}:∀ {i:Nat},i≤l.length→accT b f l d i=b ++ (l.take i).flatMap f
  | 0,_=>by simp [accT]
  | i+1,h=>by rw [accT,accT_eq (Nat.le_of_lt h),flat_take (d:=d) h,List.append_assoc]
theorem accT_len {α:Type} {b:List UInt8} {f:α→List UInt8} {l:List α} {d:α} {n i:Nat} (hi:i≤l.length) (h:∀ x ∈ l,(f x).length≤n):(accT b f l d i).length≤b.length+n * l.length:=by
  rw [accT_eq hi,List.length_append]
  have h1:=flat_len (f:=f) (l:=l.take i) (fun x hx=>h x (List.mem_of_mem_take hx))
  have h2:n * (l.take i).length≤n * l.length:=Nat.mul_le_mul_left _ (by rw [List.length_take];omega)
  omega
theorem c9 (f:Fl):PureG gT Tryz.prog 9 [f.av] (fun v=>v=wrV f):=by
  intro h hgl
  refine ACalls.forget (ACalls.of tab mixed Tryz.call9 Tryz.func9 rfl (fi:=⟨72,[7],[1,29,62,69],none,[]⟩) rfl rfl (Nat.le_of_ble_eq_true rfl) (by decide) ?_)
  unfold startA
  try simp only[go_sem]
  by_cases hE:chkE f=0
  case neg =>
    repeat' (first|refine st_seq_reg rfl (by first|(simp only[go_sem];rfl)|rfl) (by first|(simp only[go_sem];rfl)|rfl) ?_|refine st_reg rfl (by first|(simp only[go_sem];rfl)|rfl) (by first|(simp only[go_sem];rfl)|rfl) ?_|refine st_op ?_|refine st_det rfl (by simp (disch:=omega) only[go_sem,wr_i64,if_yes,if_no,↓reduceIte,reduceAdd,reduceMul,reduceEqDiff,Nat.reduceBEq,reduceLeDiff];rfl) ?_|refine st_loc rfl (by simp (disch:=omega) only[go_sem,wr_i64,if_yes,if_no,↓reduceIte,reduceAdd,reduceMul,reduceEqDiff,Nat.reduceBEq,reduceLeDiff];rfl) ?_|refine st_heap rfl (by simp (disch:=omega) only[go_sem,wr_i64,if_yes,if_no,↓reduceIte,reduceAdd,reduceMul,reduceEqDiff,Nat.reduceBEq,reduceLeDiff];rfl) ?_|refine st_store (by simp (disch:=omega) only[go_sem,wr_i64,if_yes,if_no,↓reduceIte,reduceAdd,reduceMul,reduceEqDiff,Nat.reduceBEq,reduceLeDiff];rfl) ?_|(refine st_pureE (by first|(simp (disch:=omega) only[go_sem];rfl)|rfl) rfl (c33 f) (by first|(simp only[go_sem];rfl)|rfl) (by intro n;first|(simp (disch:=omega) only[go_sem];rfl)|rfl) ?_;intro n hn)|refine st_condT rfl ?_|refine st_condF rfl ?_|(refine st_condS rfl ?_ ?_ <;> intro hg <;> (try simp only[decide_eq_true_eq,decide_eq_false_iff_not,Bool.not_eq_true',Bool.not_eq_false'] at hg))|refine st_nil ?_|refine st_tN ?_|refine st_seq ?_|refine st_block ?_|refine st_skip ?_|refine st_exit ?_|refine st_ret ?_|refine st_tE ?_|refine st_tR ?_|refine st_bN ?_|refine st_bR ?_|refine st_bH ?_|refine st_bM rfl ?_)
    all_goals try (exfalso;omega)
    simp (disch:=omega) only[AEnd,Tryz.results9,aresK,fin,go_sem,↓reduceIte,reduceEqDiff,reduceAdd,reduceLeDiff,if_yes,if_no,implies_true,true_and,and_true,List.reverse_cons,List.reverse_nil]
    unfold wrV;rw [if_neg hE]
  obtain ⟨hb1,hb2,hb3⟩:=chk_bd hE
  have hlS:(rowT wFloat (flN f)).length≤100:=by
    have:=rowT_sm (w:=wFloat) hb1
    have e:wFloat.length=5:=rfl
    have e2:(flN f).length=8:=rfl
    omega
  have k34:=c34 wFloat [f.len,f.wid,f.front,f.rear,f.turn,f.kilos,f.mid,f.high] (hb1.ok (by simp [flN])) (by decide)
  repeat' (first|refine st_seq_reg rfl (by first|(simp only[go_sem,length_map];rfl)|rfl) (by first|(simp only[go_sem,length_map];rfl)|rfl) ?_|refine st_reg rfl (by first|(simp only[go_sem,length_map];rfl)|rfl) (by first|(simp only[go_sem,length_map];rfl)|rfl) ?_|refine st_op ?_|refine st_det rfl (by simp (disch:=omega) only[go_sem,wr_i64,if_yes,if_no,↓reduceIte,reduceAdd,reduceMul,reduceEqDiff,Nat.reduceBEq,reduceLeDiff,length_map];rfl) ?_|refine st_loc rfl (by simp (disch:=omega) only[go_sem,wr_i64,if_yes,if_no,↓reduceIte,reduceAdd,reduceMul,reduceEqDiff,Nat.reduceBEq,reduceLeDiff,length_map];rfl) ?_|refine st_heap rfl (by simp (disch:=omega) only[go_sem,wr_i64,if_yes,if_no,↓reduceIte,reduceAdd,reduceMul,reduceEqDiff,Nat.reduceBEq,reduceLeDiff,length_map];rfl) ?_|refine st_store (by simp (disch:=omega) only[go_sem,wr_i64,if_yes,if_no,↓reduceIte,reduceAdd,reduceMul,reduceEqDiff,Nat.reduceBEq,reduceLeDiff,length_map];rfl) ?_|(refine st_pureE (by first|(simp (disch:=omega) only[go_sem,length_map];rfl)|rfl) rfl (c33 f) (by first|(simp only[go_sem,length_map];rfl)|rfl) (by intro n;first|(simp (disch:=omega) only[go_sem];rfl)|rfl) ?_;intro n hn)|(refine st_pureGE (by first|(simp (disch:=omega) only[go_sem,length_map];rfl)|rfl) rfl (k34) (by exact hgl) (by first|(simp only[go_sem,length_map];rfl)|rfl) (by intro n;first|(simp (disch:=omega) only[go_sem];rfl)|rfl) ?_;intro n hn)|refine st_condT rfl ?_|refine st_condF rfl ?_|(refine st_condS rfl ?_ ?_ <;> intro hg <;> (try simp only[decide_eq_true_eq,decide_eq_false_iff_not,Bool.not_eq_true',Bool.not_eq_false'] at hg))|refine st_nil ?_|refine st_tN ?_|refine st_seq ?_|refine st_block ?_|refine st_skip ?_|refine st_exit ?_|refine st_ret ?_|refine st_tE ?_|refine st_tR ?_|refine st_bN ?_|refine st_bR ?_|refine st_bH ?_|refine st_bM rfl ?_)
  all_goals try (exfalso;omega)
  obtain ⟨b0,hb0⟩:∃ b0,b0=rowT wFloat [f.len,f.wid,f.front,f.rear,f.turn,f.kilos,f.mid,f.high]:=⟨_,rfl⟩
  have hlS':b0.length≤100:=by rw [hb0];exact hlS
  rw [← hb0]
  have hll:∀ x ∈ f.loads,(ldT x).length≤70:=fun x hx=>ldT_len (hb3 x hx)
  refine st_loopC (α:=Nat) tab mixed [] [] (by repeat (first|exact trivial|refine ⟨rfl,?_⟩)) [] [] (by repeat (first|exact trivial|refine ⟨rfl,?_⟩)) (fun i=>[(6,.int .i64 (i:Nat)),(5,.str (accT b0 ldT f.loads ⟨0,0,0,0,0,0,0⟩ i))]) [(1,_),(2,_),(3,_)] (fun _=>[]) [] (fun i=>i≤f.loads.length) (fun i=>f.loads.length - i) (by decide) 0 (Nat.zero_le _) (by (try simp only[go_sem]);repeat' (first|exact trivial|refine And.intro ?_ ?_|rfl|(simp (disch:=omega) only[go_sem,if_yes,if_no,↓reduceIte,reduceAdd,reduceMul,reduceEqDiff,Nat.reduceBEq,reduceLeDiff];rfl)|(simp (disch:=omega) only[go_sem,if_yes,if_no,↓reduceIte,reduceAdd,reduceMul,reduceEqDiff,Nat.reduceBEq,reduceLeDiff]))) (by (try simp only[go_sem]);repeat' (first|exact trivial|refine And.intro ?_ ?_|rfl|(simp (disch:=omega) only[go_sem,if_yes,if_no,↓reduceIte,reduceAdd,reduceMul,reduceEqDiff,Nat.reduceBEq,reduceLeDiff];rfl)|(simp (disch:=omega) only[go_sem,if_yes,if_no,↓reduceIte,reduceAdd,reduceMul,reduceEqDiff,Nat.reduceBEq,reduceLeDiff]))) (by first|(simp only[go_sem];rfl)|rfl) (by intro n;simp only[go_sem];rfl) ?_
  rintro i c2 hi hc2
  simp only[go_sem]
  have hal:=accT_len (b:=b0) (f:=ldT) (d:=⟨0,0,0,0,0,0,0⟩) (n:=70) hi hll
  by_cases hil:i < f.loads.length
  case pos =>
    have hx:=hb3 _ (ld_mem hil)
    have hwl:(rowT wLoad [(ld f.loads i).at_,(ld f.loads i).lo,(ld f.loads i).hi,(ld f.loads i).tlo,(ld f.loads i).thi,(ld f.loads i).kind,(ld f.loads i).watts]).length≤70:=ldT_len hx
    have k34w:=c34 wLoad [(ld f.loads i).at_,(ld f.loads i).lo,(ld f.loads i).hi,(ld f.loads i).tlo,(ld f.loads i).thi,(ld f.loads i).kind,(ld f.loads i).watts] (hx.ok (by simp [ldN])) (by decide)
    repeat' (first|refine st_seq_reg rfl (by first|(simp only[go_sem,length_map,add_str];rfl)|rfl) (by first|(simp only[go_sem,length_map,add_str];rfl)|rfl) ?_|refine st_reg rfl (by first|(simp only[go_sem,length_map,add_str];rfl)|rfl) (by first|(simp only[go_sem,length_map,add_str];rfl)|rfl) ?_|refine st_op ?_|refine st_det rfl (by simp (disch:=omega) only[go_sem,wr_i64,if_yes,if_no,↓reduceIte,reduceAdd,reduceMul,reduceEqDiff,Nat.reduceBEq,reduceLeDiff,length_map,add_str];rfl) ?_|refine st_loc rfl (by simp (disch:=omega) only[go_sem,wr_i64,if_yes,if_no,↓reduceIte,reduceAdd,reduceMul,reduceEqDiff,Nat.reduceBEq,reduceLeDiff,length_map,add_str];rfl) ?_|refine st_heap rfl (by simp (disch:=omega) only[go_sem,wr_i64,if_yes,if_no,↓reduceIte,reduceAdd,reduceMul,reduceEqDiff,Nat.reduceBEq,reduceLeDiff,length_map,add_str];rfl) ?_|refine st_store (by simp (disch:=omega) only[go_sem,wr_i64,if_yes,if_no,↓reduceIte,reduceAdd,reduceMul,reduceEqDiff,Nat.reduceBEq,reduceLeDiff,length_map,add_str];rfl) ?_|(refine st_pureGE (by first|(simp (disch:=omega) only[go_sem,length_map,add_str];rfl)|rfl) rfl (k34w) (by exact hgl) (by first|(simp only[go_sem,length_map,add_str];rfl)|rfl) (by intro n;first|(simp (disch:=omega) only[go_sem];rfl)|rfl) ?_;intro n hn)|refine st_condT rfl ?_|refine st_condF rfl ?_|(refine st_condS rfl ?_ ?_ <;> intro hg <;> (try simp only[decide_eq_true_eq,decide_eq_false_iff_not,Bool.not_eq_true',Bool.not_eq_false'] at hg))|refine st_nil ?_|refine st_tN ?_|refine st_seq ?_|refine st_block ?_|refine st_skip ?_|refine st_exit ?_|refine st_ret ?_|refine st_tE ?_|refine st_tR ?_|refine st_bN ?_|refine st_bR ?_|refine st_bH ?_|refine st_bM rfl ?_)
    all_goals try (exfalso;omega)
    refine ⟨i+1,(by omega),by omega,(by repeat' (first|exact trivial|refine And.intro ?_ ?_|rfl|(simp (disch:=omega) only[go_sem,if_yes,if_no,↓reduceIte,reduceAdd,reduceMul,reduceEqDiff,Nat.reduceBEq,reduceLeDiff];rfl)|(simp (disch:=omega) only[go_sem,if_yes,if_no,↓reduceIte,reduceAdd,reduceMul,reduceEqDiff,Nat.reduceBEq,reduceLeDiff]))),(by repeat' (first|exact trivial|refine And.intro ?_ ?_|rfl|(simp (disch:=omega) only[go_sem,if_yes,if_no,↓reduceIte,reduceAdd,reduceMul,reduceEqDiff,Nat.reduceBEq,reduceLeDiff];rfl)|(simp (disch:=omega) only[go_sem,if_yes,if_no,↓reduceIte,reduceAdd,reduceMul,reduceEqDiff,Nat.reduceBEq,reduceLeDiff]))),rfl,(by first|exact HOld.of _ (by omega)|exact HOld.put _ _ _ (by omega))⟩
  obtain rfl:i=f.loads.length:=by omega
  have hel:(rowT wEnd [(f.loads.length:Int)]).length≤20:=by
    have:=rowT_sm (w:=wEnd) (sm_len hb2)
    have e:wEnd.length=3:=rfl
    simp only[List.length_cons,List.length_nil] at this;omega
  have k34e:=c34 wEnd [(f.loads.length:Int)] ((sm_len hb2).ok (by simp)) (by decide)
  repeat' (first|refine st_seq_reg rfl (by first|(simp only[go_sem,length_map,add_str];rfl)|rfl) (by first|(simp only[go_sem,length_map,add_str];rfl)|rfl) ?_|refine st_reg rfl (by first|(simp only[go_sem,length_map,add_str];rfl)|rfl) (by first|(simp only[go_sem,length_map,add_str];rfl)|rfl) ?_|refine st_op ?_|refine st_det rfl (by simp (disch:=omega) only[go_sem,wr_i64,if_yes,if_no,↓reduceIte,reduceAdd,reduceMul,reduceEqDiff,Nat.reduceBEq,reduceLeDiff,length_map,add_str];rfl) ?_|refine st_loc rfl (by simp (disch:=omega) only[go_sem,wr_i64,if_yes,if_no,↓reduceIte,reduceAdd,reduceMul,reduceEqDiff,Nat.reduceBEq,reduceLeDiff,length_map,add_str];rfl) ?_|refine st_heap rfl (by simp (disch:=omega) only[go_sem,wr_i64,if_yes,if_no,↓reduceIte,reduceAdd,reduceMul,reduceEqDiff,Nat.reduceBEq,reduceLeDiff,length_map,add_str];rfl) ?_|refine st_store (by simp (disch:=omega) only[go_sem,wr_i64,if_yes,if_no,↓reduceIte,reduceAdd,reduceMul,reduceEqDiff,Nat.reduceBEq,reduceLeDiff,length_map,add_str];rfl) ?_|(refine st_pureGE (by first|(simp (disch:=omega) only[go_sem,length_map,add_str];rfl)|rfl) rfl (k34e) (by exact hgl) (by first|(simp only[go_sem,length_map,add_str];rfl)|rfl) (by intro n;first|(simp (disch:=omega) only[go_sem];rfl)|rfl) ?_;intro n hn)|refine st_condT rfl ?_|refine st_condF rfl ?_|(refine st_condS rfl ?_ ?_ <;> intro hg <;> (try simp only[decide_eq_true_eq,decide_eq_false_iff_not,Bool.not_eq_true',Bool.not_eq_false'] at hg))|refine st_nil ?_|refine st_tN ?_|refine st_seq ?_|refine st_block ?_|refine st_skip ?_|refine st_exit ?_|refine st_ret ?_|refine st_tE ?_|refine st_tR ?_|refine st_bN ?_|refine st_bR ?_|refine st_bH ?_|refine st_bM rfl ?_)
  all_goals try (exfalso;omega)
  simp (disch:=omega) only[AEnd,Tryz.results9,aresK,fin,go_sem,↓reduceIte,reduceEqDiff,reduceAdd,reduceLeDiff,if_yes,if_no,implies_true,true_and,and_true,List.reverse_cons,List.reverse_nil]
  unfold wrV
  rw [if_pos hE]
  have e1:accT b0 ldT f.loads ⟨0,0,0,0,0,0,0⟩ f.loads.length=b0 ++ f.loads.flatMap ldT:=by rw [accT_eq (Nat.le_refl _),List.take_length]
  rw [e1,hb0]
  rfl
end Go.Proofs.YthpkmcjiobnpgaaGreatDoor

namespace Go.Proofs.YthpkmcjiobnpgaaGreatDoor
open Go.Av
attribute [local irreducible] thenA blockA awp awpOps awpD awp1
set_option maxHeartbeats 8000000
set_option maxRecDepth 20000
theorem wr_u64 (n:Int):isU64 (wr .u64 n):=by
  unfold isU64 wr IntKind.wrap
  simp only[IntKind.signed,IntKind.bits,Bool.false_and,Bool.false_eq_true,if_false]
  omega
theorem xor_u64 (a b:Int):isU64 (bitop .xor .u64 a b):=wr_u64 _
theorem st_u64 {P:Program} {tt:Nat→TI} {fi:FI} {k0:Nat} {K:AS→Prop} {T:Nat→AV} {B:Bid→Option (List AV)} {M:List Nat} {H:AH} {d:Tmp} {op:Op} {t:TypeId} {p:String} {a:Array Edge} {g:Option (Nat × Bool)} {v:Int} (hd:isDet ⟨some d,op,t,p,a,g⟩=true) (h:dres tt fi k0 ⟨some d,op,t,p,a,g⟩ ⟨T,B,M,H⟩=some (.int .u64 v,.none)) (hv:isU64 v) (hk:∀ y,isU64 y→K ⟨upd T d (.int .u64 y),B,M,H⟩) :
    awp1 P tt fi k0 ⟨some d,op,t,p,a,g⟩ ⟨T,B,M,H⟩ K:=st_det hd h (hk v hv)
theorem c26 (b:Nat × Nat):Drum Tryz.prog 26 [.ptr b 0 0] b (fun v=>∃ y,isU64 y∧v=.int .u64 y):=by
  refine Drum.of Tryz.call26 fun h x hx hu hold=>?_
  refine ACalls.of tab mixed Tryz.call26 Tryz.func26 rfl (fi:=⟨31,[],[],none,[]⟩) rfl rfl (Nat.le_of_ble_eq_true rfl) (by decide) ?_
  unfold startA
  simp only[dr] at hx ⊢
  repeat' (first|refine st_seq_reg rfl (by first|(simp only[go_sem,hx];rfl)|rfl) (by first|(simp only[go_sem,hx];rfl)|rfl) ?_|refine st_op ?_|(refine st_u64 rfl (by simp (disch:=omega) only[go_sem,wr_i64,if_yes,if_no,↓reduceIte,reduceAdd,reduceMul,reduceEqDiff,Nat.reduceBEq,reduceLeDiff,hx];rfl) (by first|exact wr_u64 _|exact xor_u64 _ _) ?_;intro y hy)|refine st_det rfl (by simp (disch:=omega) only[go_sem,wr_i64,if_yes,if_no,↓reduceIte,reduceAdd,reduceMul,reduceEqDiff,Nat.reduceBEq,reduceLeDiff,hx];rfl) ?_|refine st_store (by simp (disch:=omega) only[go_sem,wr_i64,if_yes,if_no,↓reduceIte,reduceAdd,reduceMul,reduceEqDiff,Nat.reduceBEq,reduceLeDiff,hx];rfl) ?_|refine st_nil ?_|refine st_ret ?_)
  simp (disch:=omega) only[AEnd,Tryz.results26,aresK,fin,go_sem,↓reduceIte,reduceEqDiff,reduceAdd,reduceLeDiff,if_yes,if_no,implies_true,true_and,and_true,List.reverse_cons,List.reverse_nil]
  exact ⟨fun b' _ hn=>if_neg hn,⟨_,rfl,by assumption⟩,⟨_,by assumption,rfl⟩⟩
theorem wr_u64i {n:Int} (h:0≤n∧n < 18446744073709551616):wr .u64 n=n:=by
  unfold wr IntKind.wrap
  simp only[IntKind.signed,IntKind.bits,Bool.false_and,Bool.false_eq_true,if_false]
  omega
theorem roll_bd {y n:Int} (hy:isU64 y) (hn:2≤n):0≤(shr .u64 y 1).tmod n∧(shr .u64 y 1).tmod n < n:=by
  have h:0≤shr .u64 y 1:=by
    unfold shr
    rw [Int.fdiv_eq_ediv_of_nonneg _ (by decide)]
    have:=hy.1
    exact Int.ediv_nonneg this (by decide)
  exact ⟨Int.tmod_nonneg _ h,Int.tmod_lt_of_pos _ (by omega)⟩
def Rolls (n:Int) (v:AV):Prop:=∃ r,v=.int .i64 r∧0≤r∧(r < n ∨ r=0)
theorem c24 (b:Nat × Nat) (N:Int) (hN:N≤1000000000):Drum Tryz.prog 24 [.ptr b 0 0,.int .i64 N] b (Rolls N):=by
  refine Drum.of Tryz.call24 fun h x hx hu hold=>?_
  refine ACalls.of tab mixed Tryz.call24 Tryz.func24 rfl (fi:=⟨14,[],[],none,[]⟩) rfl rfl (Nat.le_of_ble_eq_true rfl) (by decide) ?_
  unfold startA
  repeat' (first|refine st_seq_reg rfl (by first|(simp only[go_sem,hx,wr_u64i];rfl)|rfl) (by first|(simp only[go_sem,hx,wr_u64i];rfl)|rfl) ?_|refine st_op ?_|refine st_det rfl (by simp (disch:=omega) only[go_sem,wr_i64,if_yes,if_no,↓reduceIte,reduceAdd,reduceMul,reduceEqDiff,Nat.reduceBEq,reduceLeDiff,hx,wr_u64i];rfl) ?_|(refine st_drum (by first|(simp (disch:=omega) only[go_sem];rfl)|(simp (disch:=omega) only[go_sem])) rfl (c26 b) (by simp (disch:=omega) only[go_sem];exact hx) hu (by first|(simp only[go_sem];rfl)|rfl) (by intro x' n;simp (disch:=omega) only[go_sem];rfl) ?_;rintro v x' n hu' ⟨y,hy,rfl⟩ hn;have hr:=roll_bd hy (by omega:2≤N))|(refine st_condS rfl ?_ ?_ <;> intro hg <;> (try simp only[decide_eq_true_eq,decide_eq_false_iff_not,Bool.not_eq_true',Bool.not_eq_false'] at hg))|refine st_nil ?_|refine st_tN ?_|refine st_seq ?_|refine st_skip ?_|refine st_ret ?_|refine st_tR ?_)
  · simp (disch:=omega) only[AEnd,Tryz.results24,aresK,fin,go_sem,↓reduceIte,reduceEqDiff,reduceAdd,reduceLeDiff,if_yes,if_no,implies_true,true_and,and_true,List.reverse_cons,List.reverse_nil]
    exact ⟨⟨x,hx,hu⟩,⟨0,rfl,by omega,by omega⟩⟩
  · simp (disch:=omega) only[AEnd,Tryz.results24,aresK,fin,go_sem,↓reduceIte,reduceEqDiff,reduceAdd,reduceLeDiff,if_yes,if_no,implies_true,true_and,and_true,List.reverse_cons,List.reverse_nil]
    exact ⟨fun b' _ h2=>if_neg h2,⟨_,rfl,hu'⟩,⟨_,rfl,by omega,by omega⟩⟩
theorem c22 (b:Nat × Nat) (lo hi:Int) (h1:-1000000000≤lo∧lo≤1000000000) (h2:lo - 1≤hi∧hi - lo < 1000000000):Drum Tryz.prog 22 [.ptr b 0 0,.int .i64 lo,.int .i64 hi] b (fun v=>∃ r,v=.int .i64 r∧lo≤r∧(r≤hi ∨ r=lo)):=by
  refine Drum.of Tryz.call22 fun h x hx hu hold=>?_
  refine ACalls.of tab mixed Tryz.call22 Tryz.func22 rfl (fi:=⟨15,[],[],none,[]⟩) rfl rfl (Nat.le_of_ble_eq_true rfl) (by decide) ?_
  unfold startA
  repeat' (first|refine st_seq_reg rfl (by first|(simp only[go_sem,hx];rfl)|rfl) (by first|(simp only[go_sem,hx];rfl)|rfl) ?_|refine st_op ?_|refine st_det rfl (by simp (disch:=omega) only[go_sem,wr_i64,if_yes,if_no,↓reduceIte,reduceAdd,reduceMul,reduceEqDiff,Nat.reduceBEq,reduceLeDiff,hx];rfl) ?_|(refine st_drum (by first|(simp (disch:=omega) only[go_sem,hx];rfl)|rfl) rfl (c24 b _ (by omega)) (by first|(simp (disch:=omega) only[go_sem,hx];rfl)|rfl|exact put_same _ _ _) (by assumption) (by first|(simp only[go_sem,hx];rfl)|rfl) (by intro x' n;first|(simp (disch:=omega) only[go_sem];rfl)|rfl) ?_;rintro v x' n hu' ⟨r,rfl,hr1,hr2⟩ hn)|refine st_nil ?_|refine st_ret ?_)
  simp (disch:=omega) only[AEnd,Tryz.results22,aresK,fin,go_sem,↓reduceIte,reduceEqDiff,reduceAdd,reduceLeDiff,if_yes,if_no,implies_true,true_and,and_true,List.reverse_cons,List.reverse_nil]
  exact ⟨fun b' _ h2=>if_neg h2,⟨_,rfl,hu'⟩,⟨_,rfl,by omega,by omega⟩⟩
theorem c23 (b:Nat × Nat) (es:List Int) (h1:es ≠ []) (h2:(es.length:Int)≤1000):Drum Tryz.prog 23 [.ptr b 0 0,.lst 1 (es.map iv)] b (fun v=>∃ r,v=.int .i64 r∧r ∈ es):=by
  have h3:0 < es.length:=List.length_pos_iff.2 h1
  refine Drum.of Tryz.call23 fun h x hx hu hold=>?_
  refine ACalls.of tab mixed Tryz.call23 Tryz.func23 rfl (fi:=⟨15,[],[],none,[]⟩) rfl rfl (Nat.le_of_ble_eq_true rfl) (by decide) ?_
  unfold startA
  repeat' (first|refine st_seq_reg rfl (by first|(simp only[go_sem,hx];rfl)|rfl) (by first|(simp only[go_sem,hx];rfl)|rfl) ?_|refine st_op ?_|refine st_det rfl (by simp (disch:=omega) only[go_sem,wr_i64,if_yes,if_no,↓reduceIte,reduceAdd,reduceMul,reduceEqDiff,Nat.reduceBEq,reduceLeDiff,hx];rfl) ?_|(refine st_drum (by first|(simp (disch:=omega) only[go_sem,hx];rfl)|rfl) rfl (c24 b _ (by omega)) (by first|(simp (disch:=omega) only[go_sem,hx];rfl)|rfl|exact put_same _ _ _) (by assumption) (by first|(simp only[go_sem,hx];rfl)|rfl) (by intro x' n;first|(simp (disch:=omega) only[go_sem];rfl)|rfl) ?_;rintro v x' n hu' ⟨r,rfl,hr1,hr2⟩ hn)|(refine st_condS rfl ?_ ?_ <;> intro hg <;> (try simp only[decide_eq_true_eq,decide_eq_false_iff_not,Bool.not_eq_true',Bool.not_eq_false'] at hg))|refine st_nil ?_|refine st_tN ?_|refine st_seq ?_|refine st_skip ?_|refine st_ret ?_|refine st_tR ?_)
  · omega
  · simp (disch:=omega) only[AEnd,Tryz.results23,aresK,fin,go_sem,↓reduceIte,reduceEqDiff,reduceAdd,reduceLeDiff,if_yes,if_no,implies_true,true_and,and_true,List.reverse_cons,List.reverse_nil]
    exact ⟨fun b' _ h2=>if_neg h2,⟨_,rfl,hu'⟩,⟨_,rfl,by rw [List.getD_eq_getElem?_getD,List.getElem?_eq_getElem (by omega:r.toNat < es.length)];exact List.getElem_mem _⟩⟩
theorem c23b (b:Nat × Nat) (x y:Int):Drum Tryz.prog 23 [.ptr b 0 0,.lst 1 [[.int .i64 x],[.int .i64 y]]] b (fun v=>∃ r,v=.int .i64 r∧(r=x ∨ r=y)):=by
  have h:=c23 b [x,y] (by simp) (by simp)
  simpa [iv] using h
theorem c25 (b:Nat × Nat) (lo hi:Int) (h1:0≤lo) (h2:lo≤hi) (h3:hi≤100000000):Drum Tryz.prog 25 [.ptr b 0 0,.int .i64 lo,.int .i64 hi] b (fun v=>∃ r q,v=.agg [.int .i64 r,.int .i64 q]∧lo≤r∧r≤q∧q≤hi):=by
  refine Drum.of Tryz.call25 fun h x hx hu hold=>?_
  refine ACalls.of tab mixed Tryz.call25 Tryz.func25 rfl (fi:=⟨36,[6],[],none,[]⟩) rfl rfl (Nat.le_of_ble_eq_true rfl) (by decide) ?_
  unfold startA
  repeat' (first|refine st_seq_reg rfl (by first|(simp only[go_sem,hx];rfl)|rfl) (by first|(simp only[go_sem,hx];rfl)|rfl) ?_|refine st_op ?_|refine st_det rfl (by simp (disch:=omega) only[go_sem,wr_i64,if_yes,if_no,↓reduceIte,reduceAdd,reduceMul,reduceEqDiff,Nat.reduceBEq,reduceLeDiff,hx];rfl) ?_|refine st_loc rfl (by simp (disch:=omega) only[go_sem,wr_i64,if_yes,if_no,↓reduceIte,reduceAdd,reduceMul,reduceEqDiff,Nat.reduceBEq,reduceLeDiff,hx];rfl) ?_|refine st_store (by simp (disch:=omega) only[go_sem,wr_i64,if_yes,if_no,↓reduceIte,reduceAdd,reduceMul,reduceEqDiff,Nat.reduceBEq,reduceLeDiff,hx];rfl) ?_|(refine st_drum (by first|(simp (disch:=omega) only[go_sem,hx];rfl)|rfl) rfl (c24 b _ (by omega)) (by first|(simp (disch:=omega) only[go_sem,hx];rfl)|rfl|exact put_same _ _ _) (by assumption) (by first|(simp only[go_sem,hx];rfl)|rfl) (by intro x' n;first|(simp (disch:=omega) only[go_sem];rfl)|rfl) ?_;rintro v x' n hu' ⟨r,rfl,hr1,hr2⟩ hn)|(refine st_drum (by first|(simp (disch:=omega) only[go_sem,hx];rfl)|rfl) rfl (c22 b _ _ (by omega) (by omega)) (by first|(simp (disch:=omega) only[go_sem,hx];rfl)|rfl|exact put_same _ _ _) (by assumption) (by first|(simp only[go_sem,hx];rfl)|rfl) (by intro x' n;first|(simp (disch:=omega) only[go_sem];rfl)|rfl) ?_;rintro v x' n hu' ⟨r,rfl,hr1,hr2⟩ hn)|(refine st_condS rfl ?_ ?_ <;> intro hg <;> (try simp only[decide_eq_true_eq,decide_eq_false_iff_not,Bool.not_eq_true',Bool.not_eq_false'] at hg))|refine st_nil ?_|refine st_tN ?_|refine st_seq ?_|refine st_block ?_|refine st_skip ?_|refine st_ret ?_|refine st_tR ?_|refine st_bN ?_|refine st_bR ?_)
  all_goals
    simp (disch:=omega) only[AEnd,Tryz.results25,aresK,fin,go_sem,↓reduceIte,reduceEqDiff,reduceAdd,reduceLeDiff,if_yes,if_no,implies_true,true_and,and_true,List.reverse_cons,List.reverse_nil]
    exact ⟨fun b' _ h2=>if_neg h2,⟨_,rfl,by assumption⟩,⟨_,_,rfl,by omega,by omega,by omega⟩⟩
end Go.Proofs.YthpkmcjiobnpgaaGreatDoor
