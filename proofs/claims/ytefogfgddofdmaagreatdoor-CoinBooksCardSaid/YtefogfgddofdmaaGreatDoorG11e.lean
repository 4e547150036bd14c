/- Contracts of functions that the claim reaches: what each call gives, told in our own logic. Conditions: those of each theorem. -/
import Derived.Test.YtefogfgddofdmaaGreatDoorG2
import Derived.Test.YtefogfgddofdmaaGreatDoorW6
open Nat (reduceAdd reduceMul reduceEqDiff reduceLeDiff)
open List (length_map)
set_option linter.all false
set_option linter.unusedSimpArgs false
set_option linter.unusedVariables false
namespace Go.Proofs.YtefogfgddofdmaaGreatDoor
open Go.Av Go.Txt Go.Lib
attribute [local irreducible] thenA blockA awp awpOps awpD awp1
set_option maxHeartbeats 8000000
set_option maxRecDepth 20000
def rowW (w:List UInt8) (l:List Int):Nat→List UInt8
  | 0=>w
  | i+1=>rowW w l i ++ [32] ++ itoa (l.getD i 0)
theorem rowW_eq {w:List UInt8} {l:List Int}:∀ {i:Nat},i≤l.length→rowW w l i=w ++ numsT (l.take i)
  | 0,_=>by simp [rowW,numsT]
  | i+1,h=>by rw [rowW,rowW_eq (Nat.le_of_lt h),numsT_take h];simp [List.append_assoc]
theorem add_str {tt:Nat→TI} {t:Nat} {c:Bool} {a b:List UInt8} (h:a.length+b.length≤4611686018427387904):abin (tt t) .add c (.str a) (.str b)=some (.str (a ++ b)):=by
  unfold abin;dsimp only;rw [if_pos h]
theorem c34 (word:List UInt8) (l:List Int) (hn:NumOk l) (hw:word.length≤1000):PureG gT Tryz.prog 34 [.str word,.lst 1 (l.map iv)] (fun v=>v=.str (rowT word l)):=by
  intro h hgl
  obtain ⟨hn1,hn2⟩:=hn
  have hlen:∀ i,(numsT (l.take i)).length≤22000000:=fun i=>by
    have:=numsT_len (l:=l.take i) (fun x hx=>hn2 x (List.mem_of_mem_take hx))
    rw [List.length_take] at this
    omega
  refine ACalls.forget (ACalls.of tab mixed Tryz.call34 Tryz.func34 rfl (fi:=⟨22,[],[],none,[]⟩) rfl rfl (Nat.le_of_ble_eq_true rfl) (by decide) ?_)
  unfold startA
  try simp only[go_sem]
  repeat' (first|refine st_seq_reg rfl (by first|(simp only[go_sem,length_map];rfl)|rfl) (by first|(simp only[go_sem,length_map];rfl)|rfl) ?_|refine st_op ?_|refine st_det rfl (by simp (disch:=omega) only[go_sem,wr_i64,if_yes,if_no,↓reduceIte,reduceAdd,reduceMul,reduceEqDiff,Nat.reduceBEq,reduceLeDiff,length_map];rfl) ?_|refine st_nil ?_|refine st_seq ?_|refine st_block ?_)
  refine st_loopC (α:=Nat) tab mixed [] [] (by repeat (first|exact trivial|refine ⟨rfl,?_⟩)) [] [] (by repeat (first|exact trivial|refine ⟨rfl,?_⟩)) (fun i=>[(5,.int .i64 (i:Nat)),(0,.str (rowW word l i))]) [(1,_)] (fun _=>[]) [] (fun i=>i≤l.length) (fun i=>l.length - i) (by decide) 0 (Nat.zero_le _) (by (try simp only[go_sem]);repeat' (first|exact trivial|refine And.intro ?_ ?_|rfl|(simp (disch:=omega) only[go_sem,if_yes,if_no,↓reduceIte,reduceAdd,reduceMul,reduceEqDiff,Nat.reduceBEq,reduceLeDiff];rfl)|(simp (disch:=omega) only[go_sem,if_yes,if_no,↓reduceIte,reduceAdd,reduceMul,reduceEqDiff,Nat.reduceBEq,reduceLeDiff]))) (by (try simp only[go_sem]);repeat' (first|exact trivial|refine And.intro ?_ ?_|rfl|(simp (disch:=omega) only[go_sem,if_yes,if_no,↓reduceIte,reduceAdd,reduceMul,reduceEqDiff,Nat.reduceBEq,reduceLeDiff];rfl)|(simp (disch:=omega) only[go_sem,if_yes,if_no,↓reduceIte,reduceAdd,reduceMul,reduceEqDiff,Nat.reduceBEq,reduceLeDiff]))) (by first|(simp only[go_sem];rfl)|rfl) (by intro n;simp only[go_sem];rfl) ?_
  rintro i c2 hi hc2
  simp only[go_sem]
  have hlt:=hlen i
  have hrl:(rowW word l i).length≤22001000:=by rw [rowW_eq hi,List.length_append];omega
  clear hlt
  by_cases hil:i < l.length
  case neg =>
    obtain rfl:i=l.length:=by omega
    have e1:rowW word l l.length=word ++ numsT l:=by rw [rowW_eq (Nat.le_refl _),List.take_length]
    repeat' (first|refine st_seq_reg rfl (by first|(simp only[go_sem,length_map,add_str,List.length_append,List.length_cons,List.length_nil];rfl)|rfl) (by first|(simp only[go_sem,length_map,add_str,List.length_append,List.length_cons,List.length_nil];rfl)|rfl) ?_|refine st_reg rfl (by first|(simp only[go_sem,length_map,add_str,List.length_append,List.length_cons,List.length_nil];rfl)|rfl) (by first|(simp only[go_sem,length_map,add_str,List.length_append,List.length_cons,List.length_nil];rfl)|rfl) ?_|refine st_op ?_|refine st_det rfl (by simp (disch:=omega) only[go_sem,wr_i64,if_yes,if_no,↓reduceIte,reduceAdd,reduceMul,reduceEqDiff,Nat.reduceBEq,reduceLeDiff,length_map,add_str,List.length_append,List.length_cons,List.length_nil];rfl) ?_|(refine st_condS rfl ?_ ?_ <;> intro hg <;> (try simp only[decide_eq_true_eq,decide_eq_false_iff_not,Bool.not_eq_true',Bool.not_eq_false'] at hg))|refine st_nil ?_|refine st_tN ?_|refine st_seq ?_|refine st_block ?_|refine st_skip ?_|refine st_exit ?_|refine st_ret ?_|refine st_tE ?_|refine st_bH ?_)
    all_goals try (exfalso;omega)
    simp (disch:=omega) only[AEnd,Tryz.results34,aresK,fin,go_sem,↓reduceIte,reduceEqDiff,reduceAdd,reduceLeDiff,if_yes,if_no,implies_true,true_and,and_true,List.reverse_cons,List.reverse_nil]
    rw [e1];rfl
  have hx:=hn2 _ (int_mem hil)
  have hit:=itoa_length_le _ hx.1 hx.2
  repeat' (first|refine st_seq_reg rfl (by first|(simp only[go_sem,length_map,iv_getD hil,add_str,List.length_append,List.length_cons,List.length_nil];rfl)|rfl) (by first|(simp only[go_sem,length_map,iv_getD hil,add_str,List.length_append,List.length_cons,List.length_nil];rfl)|rfl) ?_|refine st_reg rfl (by first|(simp only[go_sem,length_map,iv_getD hil,add_str,List.length_append,List.length_cons,List.length_nil];rfl)|rfl) (by first|(simp only[go_sem,length_map,iv_getD hil,add_str,List.length_append,List.length_cons,List.length_nil];rfl)|rfl) ?_|refine st_op ?_|refine st_det rfl (by simp (disch:=omega) only[go_sem,wr_i64,if_yes,if_no,↓reduceIte,reduceAdd,reduceMul,reduceEqDiff,Nat.reduceBEq,reduceLeDiff,length_map,iv_getD hil,add_str,List.length_append,List.length_cons,List.length_nil];rfl) ?_|(refine st_pureGE (by first|(simp (disch:=omega) only[go_sem,length_map,iv_getD hil,add_str,List.length_append,List.length_cons,List.length_nil];rfl)|rfl) rfl (c54 (l.getD i 0) hx.1 hx.2) (by exact hgl) (by first|(simp only[go_sem,length_map,iv_getD hil,add_str,List.length_append,List.length_cons,List.length_nil];rfl)|rfl) (by intro n;first|(simp (disch:=omega) only[go_sem];rfl)|rfl) ?_;intro n hn)|(refine st_condS rfl ?_ ?_ <;> intro hg <;> (try simp only[decide_eq_true_eq,decide_eq_false_iff_not,Bool.not_eq_true',Bool.not_eq_false'] at hg))|refine st_nil ?_|refine st_tN ?_|refine st_seq ?_|refine st_block ?_|refine st_skip ?_|refine st_exit ?_|refine st_ret ?_|refine st_tE ?_|refine st_bN ?_|refine st_bH ?_)
  all_goals try (exfalso;omega)
  refine ⟨i+1,(by omega),by omega,(by repeat' (first|exact trivial|refine And.intro ?_ ?_|rfl|(simp (disch:=omega) only[go_sem,if_yes,if_no,↓reduceIte,reduceAdd,reduceMul,reduceEqDiff,Nat.reduceBEq,reduceLeDiff];rfl)|(simp (disch:=omega) only[go_sem,if_yes,if_no,↓reduceIte,reduceAdd,reduceMul,reduceEqDiff,Nat.reduceBEq,reduceLeDiff]))),(by repeat' (first|exact trivial|refine And.intro ?_ ?_|rfl|(simp (disch:=omega) only[go_sem,if_yes,if_no,↓reduceIte,reduceAdd,reduceMul,reduceEqDiff,Nat.reduceBEq,reduceLeDiff];rfl)|(simp (disch:=omega) only[go_sem,if_yes,if_no,↓reduceIte,reduceAdd,reduceMul,reduceEqDiff,Nat.reduceBEq,reduceLeDiff]))),rfl,(by first|exact HOld.of _ (by omega)|exact HOld.put _ _ _ (by omega))⟩
def accT {α:Type} (b:List UInt8) (f:α→List UInt8) (l:List α) (d:α):Nat→List UInt8
  | 0=>b
  | i+1=>accT b f l d i ++ f (l.getD i d)
theorem accT_eq {α:Type} {b:List UInt8} {f:α→List UInt8} {l:List α} {d:α}:∀ {i:Nat},i≤l.length→accT b f l d i=b ++ (l.take i).flatMap f
  | 0,_=>by simp [accT]
  | i+1,h=>by rw [accT,accT_eq (Nat.le_of_lt h),flat_take (d:=d) h,List.append_assoc]
theorem accT_len {α:Type} {b:List UInt8} {f:α→List UInt8} {l:List α} {d:α} {n i:Nat} (hi:i≤l.length) (h:∀ x ∈ l,(f x).length≤n):(accT b f l d i).length≤b.length+n * l.length:=by
  rw [accT_eq hi,List.length_append]
  have h1:=flat_len (f:=f) (l:=l.take i) (fun x hx=>h x (List.mem_of_mem_take hx))
  have h2:n * (l.take i).length≤n * l.length:=Nat.mul_le_mul_left _ (by rw [List.length_take];omega)
  omega
theorem c10 (l:Lg):PureG gT Tryz.prog 10 [l.av] (fun v=>v=wrV l):=by
  intro h hgl
  refine ACalls.forget (ACalls.of tab mixed Tryz.call10 Tryz.func10 rfl (fi:=⟨75,[7,33],[1,33,65,72],none,[(13,[0,0,2,0,14,30,62,0,128,0,896,1920,3968,0,8192,0,57344,122880,253952,524286,1048574,2097151,4194303],[(0,false),(1,false),(2,true),(3,false),(4,false),(5,false),(6,true),(7,false),(8,true),(9,false),(10,false),(11,false),(12,true),(13,false),(14,true),(15,false),(16,false),(17,false),(18,true),(19,false),(20,false),(21,false),(22,false)])]⟩) rfl rfl (Nat.le_of_ble_eq_true rfl) (by decide) ?_)
  unfold startA
  try simp only[go_sem]
  by_cases hE:chkE l=0
  case neg =>
    repeat' (first|refine st_seq_reg rfl (by first|(simp only[go_sem];rfl)|rfl) (by first|(simp only[go_sem];rfl)|rfl) ?_|refine st_op ?_|refine st_det rfl (by simp (disch:=omega) only[go_sem,wr_i64,if_yes,if_no,↓reduceIte,reduceAdd,reduceMul,reduceEqDiff,Nat.reduceBEq,reduceLeDiff];rfl) ?_|(refine st_pureE (by first|(simp (disch:=omega) only[go_sem];rfl)|rfl) rfl (c33 l) (by first|(simp only[go_sem];rfl)|rfl) (by intro n;first|(simp (disch:=omega) only[go_sem];rfl)|rfl) ?_;intro n hn)|(refine st_condS rfl ?_ ?_ <;> intro hg <;> (try simp only[decide_eq_true_eq,decide_eq_false_iff_not,Bool.not_eq_true',Bool.not_eq_false'] at hg))|refine st_nil ?_|refine st_tN ?_|refine st_seq ?_|refine st_block ?_|refine st_skip ?_|refine st_ret ?_|refine st_tR ?_)
    all_goals try (exfalso;omega)
    simp (disch:=omega) only[AEnd,Tryz.results10,aresK,fin,go_sem,↓reduceIte,reduceEqDiff,reduceAdd,reduceLeDiff,if_yes,if_no,implies_true,true_and,and_true,List.reverse_cons,List.reverse_nil]
    unfold wrV;rw [if_neg hE]
  have hO:=ledgerOk hE
  have hfn:=hO.fn
  have hbn:=hO.bn
  repeat' (first|refine st_seq_reg rfl (by first|(simp only[go_sem,length_map];rfl)|rfl) (by first|(simp only[go_sem,length_map];rfl)|rfl) ?_|refine st_op ?_|refine st_det rfl (by simp (disch:=omega) only[go_sem,wr_i64,if_yes,if_no,↓reduceIte,reduceAdd,reduceMul,reduceEqDiff,Nat.reduceBEq,reduceLeDiff,length_map];rfl) ?_|(refine st_pureE (by first|(simp (disch:=omega) only[go_sem,length_map];rfl)|rfl) rfl (c33 l) (by first|(simp only[go_sem,length_map];rfl)|rfl) (by intro n;first|(simp (disch:=omega) only[go_sem];rfl)|rfl) ?_;intro n hn)|(refine st_condS rfl ?_ ?_ <;> intro hg <;> (try simp only[decide_eq_true_eq,decide_eq_false_iff_not,Bool.not_eq_true',Bool.not_eq_false'] at hg))|refine st_nil ?_|refine st_tN ?_|refine st_seq ?_|refine st_block ?_|refine st_skip ?_|refine st_ret ?_|refine st_tR ?_)
  all_goals try (exfalso;omega)
  have hfl:∀ x ∈ l.fs,(fdT x).length≤130:=fun x hx=>fdT_len (hO.f x hx)
  have hbl:∀ x ∈ l.bs,(blT x).length≤40:=fun x hx=>blT_len (hO.b x hx)
  refine st_loopC (α:=Nat) tab mixed [] [] (by repeat (first|exact trivial|refine ⟨rfl,?_⟩)) [] [] (by repeat (first|exact trivial|refine ⟨rfl,?_⟩)) (fun i=>[(6,.int .i64 (i:Nat)),(5,.str (accT [] fdT l.fs ⟨0,0,0,[]⟩ i))]) [(1,_),(2,_),(3,_)] (fun _=>[]) [] (fun i=>i≤l.fs.length) (fun i=>l.fs.length - i) (by decide) 0 (Nat.zero_le _) (by (try simp only[go_sem]);repeat' (first|exact trivial|refine And.intro ?_ ?_|rfl|(simp (disch:=omega) only[go_sem,if_yes,if_no,↓reduceIte,reduceAdd,reduceMul,reduceEqDiff,Nat.reduceBEq,reduceLeDiff];rfl)|(simp (disch:=omega) only[go_sem,if_yes,if_no,↓reduceIte,reduceAdd,reduceMul,reduceEqDiff,Nat.reduceBEq,reduceLeDiff]))) (by (try simp only[go_sem]);repeat' (first|exact trivial|refine And.intro ?_ ?_|rfl|(simp (disch:=omega) only[go_sem,if_yes,if_no,↓reduceIte,reduceAdd,reduceMul,reduceEqDiff,Nat.reduceBEq,reduceLeDiff];rfl)|(simp (disch:=omega) only[go_sem,if_yes,if_no,↓reduceIte,reduceAdd,reduceMul,reduceEqDiff,Nat.reduceBEq,reduceLeDiff]))) (by first|(simp only[go_sem];rfl)|rfl) (by intro n;simp only[go_sem];rfl) ?_
  rintro i c2 hi hc2
  simp only[go_sem]
  have hal:=accT_len (b:=[]) (f:=fdT) (d:=⟨0,0,0,[]⟩) (n:=130) hi hfl
  rw [List.length_nil] at hal
  by_cases hil:i < l.fs.length
  case pos =>
    have hx:=hO.f _ (fd_mem hil)
    have hxs:=fd_sm hx
    have hu:=hx.many
    obtain ⟨rw1,hrw⟩:∃ rw1,rw1=fdT (fd l.fs i):=⟨_,rfl⟩
    have hwl:rw1.length≤130:=by rw [hrw];exact fdT_len hx
    have k34w:PureG gT Tryz.prog 34 [.str wFund,.lst 1 ([[.int .i64 (fd l.fs i).day],[.int .i64 (fd l.fs i).till],[.int .i64 (fd l.fs i).amt]] ++ (fd l.fs i).uses.map iv)] (fun v=>v=.str rw1):=by rw [hrw];exact c34 wFund (fdN (fd l.fs i)) (hxs.1.ok (by omega)) (by decide)
    repeat' (first|refine st_seq_reg rfl (by first|(simp only[go_sem,length_map,add_str,List.length_cons,List.length_nil,big];rfl)|rfl) (by first|(simp only[go_sem,length_map,add_str,List.length_cons,List.length_nil,big];rfl)|rfl) ?_|refine st_reg rfl (by first|(simp only[go_sem,length_map,add_str,List.length_cons,List.length_nil,big];rfl)|rfl) (by first|(simp only[go_sem,length_map,add_str,List.length_cons,List.length_nil,big];rfl)|rfl) ?_|refine st_op ?_|refine st_det rfl (by simp (disch:=omega) only[go_sem,wr_i64,if_yes,if_no,↓reduceIte,reduceAdd,reduceMul,reduceEqDiff,Nat.reduceBEq,reduceLeDiff,length_map,add_str,List.length_cons,List.length_nil,big];rfl) ?_|refine st_loc rfl (by simp (disch:=omega) only[go_sem,wr_i64,if_yes,if_no,↓reduceIte,reduceAdd,reduceMul,reduceEqDiff,Nat.reduceBEq,reduceLeDiff,length_map,add_str,List.length_cons,List.length_nil,big];rfl) ?_|refine st_store (by simp (disch:=omega) only[go_sem,wr_i64,if_yes,if_no,↓reduceIte,reduceAdd,reduceMul,reduceEqDiff,Nat.reduceBEq,reduceLeDiff,length_map,add_str,List.length_cons,List.length_nil,big];rfl) ?_|(refine st_appI (m:=8) (by first|(simp only[go_sem,length_map,add_str,List.length_cons,List.length_nil,big];rfl)|rfl) rfl (by first|(simp only[go_sem,length_map,add_str,List.length_cons,List.length_nil,big];rfl)|rfl) (by rfl) (by first|(simp only[go_sem,length_map,add_str,List.length_cons,List.length_nil,big];rfl)|rfl) (by simp only[length_map,List.length_cons,List.length_nil,big,length_map,add_str,List.length_cons,List.length_nil,big];omega) ?_)|(refine st_pureGE (by first|(simp (disch:=omega) only[go_sem,length_map,add_str,List.length_cons,List.length_nil,big];rfl)|rfl) rfl (k34w) (by exact hgl) (by first|(simp only[go_sem,length_map,add_str,List.length_cons,List.length_nil,big];rfl)|rfl) (by intro n;first|(simp (disch:=omega) only[go_sem];rfl)|rfl) ?_;intro n hn)|(refine st_condS rfl ?_ ?_ <;> intro hg <;> (try simp only[decide_eq_true_eq,decide_eq_false_iff_not,Bool.not_eq_true',Bool.not_eq_false'] at hg))|refine st_nil ?_|refine st_tN ?_|refine st_seq ?_|refine st_block ?_|refine st_skip ?_|refine st_exit ?_|refine st_tE ?_|refine st_bN ?_|refine st_bH ?_)
    all_goals try (exfalso;omega)
    refine ⟨i+1,(by omega),(by omega),(by (try (rw [hrw]));repeat' (first|exact trivial|refine And.intro ?_ ?_|rfl|(simp (disch:=omega) only[go_sem,if_yes,if_no,↓reduceIte,reduceAdd,reduceMul,reduceEqDiff,Nat.reduceBEq,reduceLeDiff];rfl)|(simp (disch:=omega) only[go_sem,if_yes,if_no,↓reduceIte,reduceAdd,reduceMul,reduceEqDiff,Nat.reduceBEq,reduceLeDiff]))),(by (try (rw [hrw]));repeat' (first|exact trivial|refine And.intro ?_ ?_|rfl|(simp (disch:=omega) only[go_sem,if_yes,if_no,↓reduceIte,reduceAdd,reduceMul,reduceEqDiff,Nat.reduceBEq,reduceLeDiff];rfl)|(simp (disch:=omega) only[go_sem,if_yes,if_no,↓reduceIte,reduceAdd,reduceMul,reduceEqDiff,Nat.reduceBEq,reduceLeDiff]))),rfl,(by first|exact HOld.of _ (by omega)|exact HOld.put _ _ _ (by omega))⟩
  obtain rfl:i=l.fs.length:=by omega
  obtain ⟨b1,hb1⟩:∃ b1,b1=accT [] fdT l.fs ⟨0,0,0,[]⟩ l.fs.length:=⟨_,rfl⟩
  rw [← hb1] at hal ⊢
  repeat' (first|refine st_seq_reg rfl (by first|(simp only[go_sem,length_map];rfl)|rfl) (by first|(simp only[go_sem,length_map];rfl)|rfl) ?_|refine st_reg rfl (by first|(simp only[go_sem,length_map];rfl)|rfl) (by first|(simp only[go_sem,length_map];rfl)|rfl) ?_|refine st_op ?_|refine st_det rfl (by simp (disch:=omega) only[go_sem,wr_i64,if_yes,if_no,↓reduceIte,reduceAdd,reduceMul,reduceEqDiff,Nat.reduceBEq,reduceLeDiff,length_map];rfl) ?_|refine st_loc rfl (by simp (disch:=omega) only[go_sem,wr_i64,if_yes,if_no,↓reduceIte,reduceAdd,reduceMul,reduceEqDiff,Nat.reduceBEq,reduceLeDiff,length_map];rfl) ?_|refine st_store (by simp (disch:=omega) only[go_sem,wr_i64,if_yes,if_no,↓reduceIte,reduceAdd,reduceMul,reduceEqDiff,Nat.reduceBEq,reduceLeDiff,length_map];rfl) ?_|refine st_append (by simp (disch:=omega) only[go_sem,wr_i64,if_yes,if_no,↓reduceIte,reduceAdd,reduceMul,reduceEqDiff,Nat.reduceBEq,reduceLeDiff,length_map];rfl) ?_|(refine st_condS rfl ?_ ?_ <;> intro hg <;> (try simp only[decide_eq_true_eq,decide_eq_false_iff_not,Bool.not_eq_true',Bool.not_eq_false'] at hg))|refine st_nil ?_|refine st_tN ?_|refine st_seq ?_|refine st_block ?_|refine st_skip ?_|refine st_exit ?_|refine st_tE ?_|refine st_bH ?_)
  all_goals try (exfalso;omega)
  refine st_loopC (α:=Nat) tab mixed [] [] (by repeat (first|exact trivial|refine ⟨rfl,?_⟩)) [] [] (by repeat (first|exact trivial|refine ⟨rfl,?_⟩)) (fun i=>[(8,.int .i64 (i:Nat)),(5,.str (accT b1 blT l.bs ⟨0,0,0⟩ i))]) [(1,_),(2,_),(3,_)] (fun _=>[]) [] (fun i=>i≤l.bs.length) (fun i=>l.bs.length - i) (by decide) 0 (Nat.zero_le _) (by (try simp only[go_sem]);repeat' (first|exact trivial|refine And.intro ?_ ?_|rfl|(simp (disch:=omega) only[go_sem,if_yes,if_no,↓reduceIte,reduceAdd,reduceMul,reduceEqDiff,Nat.reduceBEq,reduceLeDiff];rfl)|(simp (disch:=omega) only[go_sem,if_yes,if_no,↓reduceIte,reduceAdd,reduceMul,reduceEqDiff,Nat.reduceBEq,reduceLeDiff]))) (by (try simp only[go_sem]);repeat' (first|exact trivial|refine And.intro ?_ ?_|rfl|(simp (disch:=omega) only[go_sem,if_yes,if_no,↓reduceIte,reduceAdd,reduceMul,reduceEqDiff,Nat.reduceBEq,reduceLeDiff];rfl)|(simp (disch:=omega) only[go_sem,if_yes,if_no,↓reduceIte,reduceAdd,reduceMul,reduceEqDiff,Nat.reduceBEq,reduceLeDiff]))) (by first|(simp only[go_sem];rfl)|rfl) (by intro n;simp only[go_sem];rfl) ?_
  rintro j c3 hj hc3
  simp only[go_sem]
  have hbal:=accT_len (b:=b1) (f:=blT) (d:=⟨0,0,0⟩) (n:=40) hj hbl
  by_cases hjl:j < l.bs.length
  case pos =>
    have hx:=hO.b _ (bl_mem hjl)
    have hwl:(rowT wBill [(bl l.bs j).day,(bl l.bs j).use,(bl l.bs j).amt]).length≤40:=blT_len hx
    have k34w:=c34 wBill [(bl l.bs j).day,(bl l.bs j).use,(bl l.bs j).amt] ((bl_sm hx).ok (by simp [blN])) (by decide)
    repeat' (first|refine st_seq_reg rfl (by first|(simp only[go_sem,length_map,add_str];rfl)|rfl) (by first|(simp only[go_sem,length_map,add_str];rfl)|rfl) ?_|refine st_reg rfl (by first|(simp only[go_sem,length_map,add_str];rfl)|rfl) (by first|(simp only[go_sem,length_map,add_str];rfl)|rfl) ?_|refine st_draw rfl (by first|(simp only[go_sem,length_map,add_str];rfl)|rfl) (by first|(simp only[go_sem,length_map,add_str];rfl)|rfl) ?_|refine st_op ?_|refine st_det rfl (by simp (disch:=omega) only[go_sem,wr_i64,if_yes,if_no,↓reduceIte,reduceAdd,reduceMul,reduceEqDiff,Nat.reduceBEq,reduceLeDiff,length_map,add_str];rfl) ?_|refine st_dop rfl ?_|(refine st_pureGE (by first|(simp (disch:=omega) only[go_sem,length_map,add_str];rfl)|rfl) rfl (k34w) (by exact hgl) (by first|(simp only[go_sem,length_map,add_str];rfl)|rfl) (by intro n;first|(simp (disch:=omega) only[go_sem];rfl)|rfl) ?_;intro n hn)|(refine st_condS rfl ?_ ?_ <;> intro hg <;> (try simp only[decide_eq_true_eq,decide_eq_false_iff_not,Bool.not_eq_true',Bool.not_eq_false'] at hg))|refine st_nil ?_|refine st_dnil ?_|refine st_tN ?_|refine st_seq ?_|refine st_block ?_|refine st_skip ?_|refine st_exit ?_|refine st_tE ?_|refine st_bN ?_|refine st_bH ?_)
    all_goals try (exfalso;omega)
    refine ⟨j+1,(by omega),by omega,(by repeat' (first|exact trivial|refine And.intro ?_ ?_|rfl|(simp (disch:=omega) only[go_sem,if_yes,if_no,↓reduceIte,reduceAdd,reduceMul,reduceEqDiff,Nat.reduceBEq,reduceLeDiff];rfl)|(simp (disch:=omega) only[go_sem,if_yes,if_no,↓reduceIte,reduceAdd,reduceMul,reduceEqDiff,Nat.reduceBEq,reduceLeDiff]))),(by repeat' (first|exact trivial|refine And.intro ?_ ?_|rfl|(simp (disch:=omega) only[go_sem,if_yes,if_no,↓reduceIte,reduceAdd,reduceMul,reduceEqDiff,Nat.reduceBEq,reduceLeDiff];rfl)|(simp (disch:=omega) only[go_sem,if_yes,if_no,↓reduceIte,reduceAdd,reduceMul,reduceEqDiff,Nat.reduceBEq,reduceLeDiff]))),rfl,(by first|exact HOld.of _ (by omega)|exact HOld.put _ _ _ (by omega))⟩
  obtain rfl:j=l.bs.length:=by omega
  have hel:(rowT wEnd [(l.bs.length:Int)]).length≤20:=by
    have:=rowT_sm (w:=wEnd) (sm_len (n:=l.bs.length) (by omega))
    have e:wEnd.length=3:=rfl
    simp only[List.length_cons,List.length_nil] at this;omega
  have k34e:=c34 wEnd [(l.bs.length:Int)] ((sm_len (n:=l.bs.length) (by omega)).ok (by simp)) (by decide)
  repeat' (first|refine st_seq_reg rfl (by first|(simp only[go_sem,length_map,add_str];rfl)|rfl) (by first|(simp only[go_sem,length_map,add_str];rfl)|rfl) ?_|refine st_draw rfl (by first|(simp only[go_sem,length_map,add_str];rfl)|rfl) (by first|(simp only[go_sem,length_map,add_str];rfl)|rfl) ?_|refine st_op ?_|refine st_det rfl (by simp (disch:=omega) only[go_sem,wr_i64,if_yes,if_no,↓reduceIte,reduceAdd,reduceMul,reduceEqDiff,Nat.reduceBEq,reduceLeDiff,length_map,add_str];rfl) ?_|refine st_dop rfl ?_|(refine st_pureGE (by first|(simp (disch:=omega) only[go_sem,length_map,add_str];rfl)|rfl) rfl (k34e) (by exact hgl) (by first|(simp only[go_sem,length_map,add_str];rfl)|rfl) (by intro n;first|(simp (disch:=omega) only[go_sem];rfl)|rfl) ?_;intro n hn)|(refine st_condS rfl ?_ ?_ <;> intro hg <;> (try simp only[decide_eq_true_eq,decide_eq_false_iff_not,Bool.not_eq_true',Bool.not_eq_false'] at hg))|refine st_nil ?_|refine st_tN ?_|refine st_seq ?_|refine st_block ?_|refine st_skip ?_|refine st_exit ?_|refine st_ret ?_|refine st_tE ?_|refine st_bH ?_)
  all_goals try (exfalso;omega)
  simp (disch:=omega) only[AEnd,Tryz.results10,aresK,fin,go_sem,↓reduceIte,reduceEqDiff,reduceAdd,reduceLeDiff,if_yes,if_no,implies_true,true_and,and_true,List.reverse_cons,List.reverse_nil]
  unfold wrV
  rw [if_pos hE]
  have e1:accT b1 blT l.bs ⟨0,0,0⟩ l.bs.length=b1 ++ l.bs.flatMap blT:=by rw [accT_eq (Nat.le_refl _),List.take_length]
  have e2:b1=l.fs.flatMap fdT:=by rw [hb1,accT_eq (Nat.le_refl _),List.take_length,List.nil_append]
  rw [e1,e2]
  rfl
end Go.Proofs.YtefogfgddofdmaaGreatDoor

namespace Go.Proofs.YtefogfgddofdmaaGreatDoor
open Go.Av
attribute [local irreducible] thenA blockA awp awpOps awpD awp1
set_option maxHeartbeats 8000000
set_option maxRecDepth 20000
theorem c22 (a b:List Int) (ha:(a.length:Int) < 1000000) (hb:(b.length:Int) < 1000000):Pure Tryz.prog 22 [.lst 1 (a.map iv),.lst 1 (b.map iv)] (fun v=>v=.bool (decide (a=b))):=by
  intro h
  refine ACalls.forget (ACalls.of tab mixed Tryz.call22 Tryz.func22 rfl (fi:=⟨26,[],[],none,[(6,[0,0,3,7,0,0,48,112,255],[(0,false),(1,false),(2,false),(3,true),(4,false),(5,false),(6,false),(7,true),(8,false)])]⟩) rfl rfl (Nat.le_of_ble_eq_true rfl) (by decide) ?_)
  unfold startA
  repeat' (first|refine st_seq_reg rfl (by first|(simp only[go_sem];rfl)|rfl) (by first|(simp only[go_sem];rfl)|rfl) ?_|refine st_reg rfl (by first|(simp only[go_sem];rfl)|rfl) (by first|(simp only[go_sem];rfl)|rfl) ?_|refine st_seq_draw rfl (by first|(simp only[go_sem];rfl)|rfl) (by first|(simp only[go_sem];rfl)|rfl) ?_|refine st_draw rfl (by first|(simp only[go_sem];rfl)|rfl) (by first|(simp only[go_sem];rfl)|rfl) ?_|refine st_op ?_|refine st_det rfl (by simp (disch:=omega) only[go_sem,wr_i64,if_yes,if_no,↓reduceIte,reduceAdd,reduceMul,reduceEqDiff,Nat.reduceBEq,reduceLeDiff];rfl) ?_|refine st_dop rfl ?_|refine st_condT rfl ?_|refine st_condF rfl ?_|(refine st_condS rfl ?_ ?_ <;> intro hg <;> (try simp only[decide_eq_true_eq,decide_eq_false_iff_not,Bool.not_eq_true',Bool.not_eq_false'] at hg))|refine st_nil ?_|refine st_dnil ?_|refine st_tN ?_|refine st_seq ?_|refine st_block ?_|refine st_skip ?_|refine st_exit ?_|refine st_ret ?_|refine st_tE ?_|refine st_tR ?_|refine st_bN ?_|refine st_bR ?_|refine st_bH ?_|refine st_bM rfl ?_)
  · simp (disch:=omega) only[AEnd,Tryz.results22,aresK,fin,go_sem,↓reduceIte,reduceEqDiff,reduceAdd,reduceLeDiff,if_yes,if_no,implies_true,true_and,and_true,List.reverse_cons,List.reverse_nil]
    have:¬ a=b:=fun e=>hg (by rw [e])
    simp [this]
  have hab:a.length=b.length:=by omega
  refine st_loopC (α:=Nat) tab mixed [] [] (by repeat (first|exact trivial|refine ⟨rfl,?_⟩)) [] [] (by repeat (first|exact trivial|refine ⟨rfl,?_⟩)) (fun i=>[(5,.int .i64 i)]) [(0,_),(1,_),(4,_)] (fun _=>[]) [] (fun i=>i≤a.length∧(a.drop i=b.drop i ↔ a=b)) (fun i=>a.length - i) (by decide) 0 ⟨by omega,by simp⟩ (by (try simp only[go_sem]);repeat' (first|exact trivial|refine And.intro ?_ ?_|rfl|(simp (disch:=omega) only[go_sem,if_yes,if_no,↓reduceIte,reduceAdd,reduceMul,reduceEqDiff,Nat.reduceBEq,reduceLeDiff];rfl)|(simp (disch:=omega) only[go_sem,if_yes,if_no,↓reduceIte,reduceAdd,reduceMul,reduceEqDiff,Nat.reduceBEq,reduceLeDiff]))) (by (try simp only[go_sem]);repeat' (first|exact trivial|refine And.intro ?_ ?_|rfl|(simp (disch:=omega) only[go_sem,if_yes,if_no,↓reduceIte,reduceAdd,reduceMul,reduceEqDiff,Nat.reduceBEq,reduceLeDiff];rfl)|(simp (disch:=omega) only[go_sem,if_yes,if_no,↓reduceIte,reduceAdd,reduceMul,reduceEqDiff,Nat.reduceBEq,reduceLeDiff]))) (by first|(simp only[go_sem];rfl)|rfl) (by intro n;simp only[go_sem];rfl) ?_
  rintro i c ⟨hi',hall⟩ hc
  simp only[go_sem]
  repeat' (first|refine st_seq_reg rfl (by first|(simp only[go_sem];rfl)|rfl) (by first|(simp only[go_sem];rfl)|rfl) ?_|refine st_reg rfl (by first|(simp only[go_sem];rfl)|rfl) (by first|(simp only[go_sem];rfl)|rfl) ?_|refine st_seq_draw rfl (by first|(simp only[go_sem];rfl)|rfl) (by first|(simp only[go_sem];rfl)|rfl) ?_|refine st_draw rfl (by first|(simp only[go_sem];rfl)|rfl) (by first|(simp only[go_sem];rfl)|rfl) ?_|refine st_op ?_|refine st_det rfl (by simp (disch:=omega) only[go_sem,wr_i64,if_yes,if_no,↓reduceIte,reduceAdd,reduceMul,reduceEqDiff,Nat.reduceBEq,reduceLeDiff];rfl) ?_|refine st_dop rfl ?_|refine st_condT rfl ?_|refine st_condF rfl ?_|(refine st_condS rfl ?_ ?_ <;> intro hg <;> (try simp only[decide_eq_true_eq,decide_eq_false_iff_not,Bool.not_eq_true',Bool.not_eq_false'] at hg))|refine st_nil ?_|refine st_dnil ?_|refine st_tN ?_|refine st_seq ?_|refine st_block ?_|refine st_skip ?_|refine st_exit ?_|refine st_ret ?_|refine st_tE ?_|refine st_tR ?_|refine st_bN ?_|refine st_bR ?_|refine st_bH ?_|refine st_bM rfl ?_)
  · simp (disch:=omega) only[AEnd,Tryz.results22,aresK,fin,go_sem,↓reduceIte,reduceEqDiff,reduceAdd,reduceLeDiff,if_yes,if_no,implies_true,true_and,and_true,List.reverse_cons,List.reverse_nil]
    have:¬ a=b:=fun e=>hg (by rw [e])
    simp [this]
  · have heq:a.getD i 0=b.getD i 0:=Decidable.of_not_not hg
    rw [drop_getD 0 (by omega),drop_getD 0 (by omega:i < b.length),List.cons.injEq] at hall
    refine ⟨i+1,⟨by omega,fun h=>hall.1 ⟨heq,h⟩,fun h=>(hall.2 h).2⟩,by omega,(by repeat' (first|exact trivial|refine And.intro ?_ ?_|rfl|(simp (disch:=omega) only[go_sem,if_yes,if_no,↓reduceIte,reduceAdd,reduceMul,reduceEqDiff,Nat.reduceBEq,reduceLeDiff];rfl)|(simp (disch:=omega) only[go_sem,if_yes,if_no,↓reduceIte,reduceAdd,reduceMul,reduceEqDiff,Nat.reduceBEq,reduceLeDiff]))),(by repeat' (first|exact trivial|refine And.intro ?_ ?_|rfl|(simp (disch:=omega) only[go_sem,if_yes,if_no,↓reduceIte,reduceAdd,reduceMul,reduceEqDiff,Nat.reduceBEq,reduceLeDiff];rfl)|(simp (disch:=omega) only[go_sem,if_yes,if_no,↓reduceIte,reduceAdd,reduceMul,reduceEqDiff,Nat.reduceBEq,reduceLeDiff]))),rfl,(by first|exact HOld.of _ (by omega)|exact HOld.put _ _ _ (by omega))⟩
  · simp (disch:=omega) only[AEnd,Tryz.results22,aresK,fin,go_sem,↓reduceIte,reduceEqDiff,reduceAdd,reduceLeDiff,if_yes,if_no,implies_true,true_and,and_true,List.reverse_cons,List.reverse_nil]
    rw [List.drop_eq_nil_of_le (by omega),List.drop_eq_nil_of_le (by omega)] at hall
    have:a=b:=hall.1 rfl
    simp [this]
end Go.Proofs.YtefogfgddofdmaaGreatDoor
