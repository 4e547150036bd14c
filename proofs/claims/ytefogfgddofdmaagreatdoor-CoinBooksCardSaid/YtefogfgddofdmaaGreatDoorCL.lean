/- Contracts of functions that the claim reaches: what each call gives, told in our own logic. Conditions: those of each theorem. -/
import Derived.Test.YtefogfgddofdmaaGreatDoorC13
import Derived.Test.YtefogfgddofdmaaGreatDoorG11e
import Derived.Test.YtefogfgddofdmaaGreatDoorKR
import Derived.Test.YtefogfgddofdmaaGreatDoorK3
import Derived.Test.YtefogfgddofdmaaGreatDoorG11
import Derived.Test.YtefogfgddofdmaaGreatDoorG17
open Nat (reduceAdd reduceMul reduceEqDiff reduceLeDiff)
open List (length_map)
set_option linter.all false
set_option linter.unusedSimpArgs false
set_option linter.unusedVariables false
namespace Go.Proofs.YtefogfgddofdmaaGreatDoor
open Go.Av Go.Txt Go.Lib
attribute [local irreducible] thenA blockA awp awpOps awpD awp1
set_option maxHeartbeats 16000000
set_option maxRecDepth 20000
def longB (l:Lg):Bool:=l.fs.any (fun x=>decide (20 < x.uses.length)) || (decide (20 < l.fs.length) || decide (20 < l.bs.length))
theorem any_step {l:List Fd} {i:Nat} (h:i < l.length) {p:Fd→Bool}:(l.take (i+1)).any p=((l.take i).any p || p (fd l i)):=by
  rw [List.take_add_one,List.any_append,List.getElem?_eq_getElem h,fd,List.getD_eq_getElem?_getD,List.getElem?_eq_getElem h]
  simp
theorem c5 (l:Lg) (hx:(l.fs.length:Int)≤9223372036854775807):Pure Tryz.prog 5 [l.av] (fun v=>v=.bool (longB l)):=by
  intro h
  refine ACalls.forget (ACalls.of tab mixed Tryz.call5 Tryz.func5 rfl (fi:=⟨29,[],[1],none,[]⟩) rfl rfl (Nat.le_of_ble_eq_true rfl) (by decide) ?_)
  unfold startA
  try simp only[go_sem]
  repeat' (first|refine st_seq_reg rfl (by first|(simp only[go_sem];rfl)|rfl) (by first|(simp only[go_sem];rfl)|rfl) ?_|refine st_op ?_|refine st_det rfl (by simp (disch:=omega) only[go_sem,wr_i64,if_yes,if_no,↓reduceIte,reduceAdd,reduceMul,reduceEqDiff,Nat.reduceBEq,reduceLeDiff];rfl) ?_|refine st_nil ?_|refine st_seq ?_|refine st_block ?_)
  refine st_loopC (α:=Nat) tab mixed [] [] (by repeat (first|exact trivial|refine ⟨rfl,?_⟩)) [] [] (by repeat (first|exact trivial|refine ⟨rfl,?_⟩)) (fun i=>[(3,.int .i64 (i:Nat))]) [(1,_),(2,_)] (fun _=>[]) [] (fun i=>i≤l.fs.length∧(l.fs.take i).any (fun x=>decide (20 < x.uses.length))=false) (fun i=>l.fs.length - i) (by decide) 0 ⟨Nat.zero_le _,rfl⟩ (by (try simp only[go_sem]);repeat' (first|exact trivial|refine And.intro ?_ ?_|rfl|(simp (disch:=omega) only[go_sem,if_yes,if_no,↓reduceIte,reduceAdd,reduceMul,reduceEqDiff,Nat.reduceBEq,reduceLeDiff];rfl)|(simp (disch:=omega) only[go_sem,if_yes,if_no,↓reduceIte,reduceAdd,reduceMul,reduceEqDiff,Nat.reduceBEq,reduceLeDiff]))) (by (try simp only[go_sem]);repeat' (first|exact trivial|refine And.intro ?_ ?_|rfl|(simp (disch:=omega) only[go_sem,if_yes,if_no,↓reduceIte,reduceAdd,reduceMul,reduceEqDiff,Nat.reduceBEq,reduceLeDiff];rfl)|(simp (disch:=omega) only[go_sem,if_yes,if_no,↓reduceIte,reduceAdd,reduceMul,reduceEqDiff,Nat.reduceBEq,reduceLeDiff]))) (by first|(simp only[go_sem];rfl)|rfl) (by intro n;simp only[go_sem];rfl) ?_
  rintro i c ⟨hi,ha⟩ hc
  simp only[go_sem]
  by_cases hil:i < l.fs.length
  case neg =>
    obtain rfl:i=l.fs.length:=by omega
    rw [List.take_length] at ha
    by_cases h1:20 < l.fs.length
    · have e:longB l=true:=by unfold longB;rw [decide_eq_true h1];simp
      repeat' (first|refine st_seq_reg rfl (by first|(simp only[go_sem,length_map];rfl)|rfl) (by first|(simp only[go_sem,length_map];rfl)|rfl) ?_|refine st_reg rfl (by first|(simp only[go_sem,length_map];rfl)|rfl) (by first|(simp only[go_sem,length_map];rfl)|rfl) ?_|refine st_op ?_|refine st_det rfl (by simp (disch:=omega) only[go_sem,wr_i64,if_yes,if_no,↓reduceIte,reduceAdd,reduceMul,reduceEqDiff,Nat.reduceBEq,reduceLeDiff,length_map];rfl) ?_|refine st_gT rfl rfl rfl ?_|refine st_gF rfl rfl rfl ?_|(refine st_gS rfl rfl ?_ ?_ <;> intro hg <;> (try simp only[decide_eq_true_eq,decide_eq_false_iff_not,Bool.not_eq_true',Bool.not_eq_false'] at hg))|(refine st_condS rfl ?_ ?_ <;> intro hg <;> (try simp only[decide_eq_true_eq,decide_eq_false_iff_not,Bool.not_eq_true',Bool.not_eq_false'] at hg))|refine st_nil ?_|refine st_tN ?_|refine st_seq ?_|refine st_block ?_|refine st_skip ?_|refine st_exit ?_|refine st_ret ?_|refine st_tE ?_|refine st_tR ?_|refine st_bN ?_|refine st_bR ?_|refine st_bH ?_)
      all_goals try (exfalso;omega)
      simp (disch:=omega) only[AEnd,Tryz.results5,aresK,fin,go_sem,↓reduceIte,reduceEqDiff,reduceAdd,reduceLeDiff,if_yes,if_no,implies_true,true_and,and_true,List.reverse_cons,List.reverse_nil]
      rw [e]
    · by_cases h2:20 < l.bs.length
      · have e:longB l=true:=by unfold longB;rw [decide_eq_true h2];simp
        repeat' (first|refine st_seq_reg rfl (by first|(simp only[go_sem,length_map];rfl)|rfl) (by first|(simp only[go_sem,length_map];rfl)|rfl) ?_|refine st_reg rfl (by first|(simp only[go_sem,length_map];rfl)|rfl) (by first|(simp only[go_sem,length_map];rfl)|rfl) ?_|refine st_op ?_|refine st_det rfl (by simp (disch:=omega) only[go_sem,wr_i64,if_yes,if_no,↓reduceIte,reduceAdd,reduceMul,reduceEqDiff,Nat.reduceBEq,reduceLeDiff,length_map];rfl) ?_|refine st_gT rfl rfl rfl ?_|refine st_gF rfl rfl rfl ?_|(refine st_gS rfl rfl ?_ ?_ <;> intro hg <;> (try simp only[decide_eq_true_eq,decide_eq_false_iff_not,Bool.not_eq_true',Bool.not_eq_false'] at hg))|(refine st_condS rfl ?_ ?_ <;> intro hg <;> (try simp only[decide_eq_true_eq,decide_eq_false_iff_not,Bool.not_eq_true',Bool.not_eq_false'] at hg))|refine st_nil ?_|refine st_tN ?_|refine st_seq ?_|refine st_block ?_|refine st_skip ?_|refine st_exit ?_|refine st_ret ?_|refine st_tE ?_|refine st_tR ?_|refine st_bN ?_|refine st_bR ?_|refine st_bH ?_)
        all_goals try (exfalso;omega)
        simp (disch:=omega) only[AEnd,Tryz.results5,aresK,fin,go_sem,↓reduceIte,reduceEqDiff,reduceAdd,reduceLeDiff,if_yes,if_no,implies_true,true_and,and_true,List.reverse_cons,List.reverse_nil]
        rw [e]
        simp;omega
      · have e:longB l=false:=by unfold longB;rw [ha,decide_eq_false h1,decide_eq_false h2];rfl
        repeat' (first|refine st_seq_reg rfl (by first|(simp only[go_sem,length_map];rfl)|rfl) (by first|(simp only[go_sem,length_map];rfl)|rfl) ?_|refine st_reg rfl (by first|(simp only[go_sem,length_map];rfl)|rfl) (by first|(simp only[go_sem,length_map];rfl)|rfl) ?_|refine st_op ?_|refine st_det rfl (by simp (disch:=omega) only[go_sem,wr_i64,if_yes,if_no,↓reduceIte,reduceAdd,reduceMul,reduceEqDiff,Nat.reduceBEq,reduceLeDiff,length_map];rfl) ?_|refine st_gT rfl rfl rfl ?_|refine st_gF rfl rfl rfl ?_|(refine st_gS rfl rfl ?_ ?_ <;> intro hg <;> (try simp only[decide_eq_true_eq,decide_eq_false_iff_not,Bool.not_eq_true',Bool.not_eq_false'] at hg))|(refine st_condS rfl ?_ ?_ <;> intro hg <;> (try simp only[decide_eq_true_eq,decide_eq_false_iff_not,Bool.not_eq_true',Bool.not_eq_false'] at hg))|refine st_nil ?_|refine st_tN ?_|refine st_seq ?_|refine st_block ?_|refine st_skip ?_|refine st_exit ?_|refine st_ret ?_|refine st_tE ?_|refine st_tR ?_|refine st_bN ?_|refine st_bR ?_|refine st_bH ?_)
        all_goals try (exfalso;omega)
        simp (disch:=omega) only[AEnd,Tryz.results5,aresK,fin,go_sem,↓reduceIte,reduceEqDiff,reduceAdd,reduceLeDiff,if_yes,if_no,implies_true,true_and,and_true,List.reverse_cons,List.reverse_nil]
        rw [e]
        simp;omega
  have hs:=any_step hil (p:=fun x=>decide (20 < x.uses.length))
  rw [ha,Bool.false_or] at hs
  by_cases h1:20 < (fd l.fs i).uses.length
  · have e:longB l=true:=by
      unfold longB
      rw [Bool.or_eq_true]
      exact .inl (List.any_eq_true.2 ⟨_,fd_mem hil,decide_eq_true h1⟩)
    repeat' (first|refine st_seq_reg rfl (by first|(simp only[go_sem,length_map];rfl)|rfl) (by first|(simp only[go_sem,length_map];rfl)|rfl) ?_|refine st_reg rfl (by first|(simp only[go_sem,length_map];rfl)|rfl) (by first|(simp only[go_sem,length_map];rfl)|rfl) ?_|refine st_op ?_|refine st_det rfl (by simp (disch:=omega) only[go_sem,wr_i64,if_yes,if_no,↓reduceIte,reduceAdd,reduceMul,reduceEqDiff,Nat.reduceBEq,reduceLeDiff,length_map];rfl) ?_|refine st_gT rfl rfl rfl ?_|refine st_gF rfl rfl rfl ?_|(refine st_gS rfl rfl ?_ ?_ <;> intro hg <;> (try simp only[decide_eq_true_eq,decide_eq_false_iff_not,Bool.not_eq_true',Bool.not_eq_false'] at hg))|(refine st_condS rfl ?_ ?_ <;> intro hg <;> (try simp only[decide_eq_true_eq,decide_eq_false_iff_not,Bool.not_eq_true',Bool.not_eq_false'] at hg))|refine st_nil ?_|refine st_tN ?_|refine st_seq ?_|refine st_block ?_|refine st_skip ?_|refine st_exit ?_|refine st_ret ?_|refine st_tE ?_|refine st_tR ?_|refine st_bN ?_|refine st_bR ?_|refine st_bH ?_)
    all_goals try (exfalso;omega)
    simp (disch:=omega) only[AEnd,Tryz.results5,aresK,fin,go_sem,↓reduceIte,reduceEqDiff,reduceAdd,reduceLeDiff,if_yes,if_no,implies_true,true_and,and_true,List.reverse_cons,List.reverse_nil]
    rw [e]
  · rw [decide_eq_false h1] at hs
    repeat' (first|refine st_seq_reg rfl (by first|(simp only[go_sem,length_map];rfl)|rfl) (by first|(simp only[go_sem,length_map];rfl)|rfl) ?_|refine st_reg rfl (by first|(simp only[go_sem,length_map];rfl)|rfl) (by first|(simp only[go_sem,length_map];rfl)|rfl) ?_|refine st_op ?_|refine st_det rfl (by simp (disch:=omega) only[go_sem,wr_i64,if_yes,if_no,↓reduceIte,reduceAdd,reduceMul,reduceEqDiff,Nat.reduceBEq,reduceLeDiff,length_map];rfl) ?_|refine st_gT rfl rfl rfl ?_|refine st_gF rfl rfl rfl ?_|(refine st_gS rfl rfl ?_ ?_ <;> intro hg <;> (try simp only[decide_eq_true_eq,decide_eq_false_iff_not,Bool.not_eq_true',Bool.not_eq_false'] at hg))|(refine st_condS rfl ?_ ?_ <;> intro hg <;> (try simp only[decide_eq_true_eq,decide_eq_false_iff_not,Bool.not_eq_true',Bool.not_eq_false'] at hg))|refine st_nil ?_|refine st_tN ?_|refine st_seq ?_|refine st_block ?_|refine st_skip ?_|refine st_exit ?_|refine st_ret ?_|refine st_tE ?_|refine st_tR ?_|refine st_bN ?_|refine st_bR ?_|refine st_bH ?_)
    all_goals try (exfalso;omega)
    refine ⟨i+1,(by exact ⟨by omega,hs⟩),(by omega),(by repeat' (first|exact trivial|refine And.intro ?_ ?_|rfl|(simp (disch:=omega) only[go_sem,if_yes,if_no,↓reduceIte,reduceAdd,reduceMul,reduceEqDiff,Nat.reduceBEq,reduceLeDiff];rfl)|(simp (disch:=omega) only[go_sem,if_yes,if_no,↓reduceIte,reduceAdd,reduceMul,reduceEqDiff,Nat.reduceBEq,reduceLeDiff]))),(by repeat' (first|exact trivial|refine And.intro ?_ ?_|rfl|(simp (disch:=omega) only[go_sem,if_yes,if_no,↓reduceIte,reduceAdd,reduceMul,reduceEqDiff,Nat.reduceBEq,reduceLeDiff];rfl)|(simp (disch:=omega) only[go_sem,if_yes,if_no,↓reduceIte,reduceAdd,reduceMul,reduceEqDiff,Nat.reduceBEq,reduceLeDiff]))),rfl,(by first|exact HOld.of _ (by omega)|exact HOld.put _ _ _ (by omega))⟩
def wS (l:Lg):List UInt8:=if chkE l=0 then bookT l else []
theorem wr_form (l:Lg):wrV l=.tup [.str (wS l),.int .i64 (chkE l)]:=by
  unfold wrV wS
  by_cases h:chkE l=0
  · rw [if_pos h,if_pos h,h]
  · rw [if_neg h,if_neg h]
theorem wS_len (l:Lg):(wS l).length≤1500:=by
  unfold wS
  by_cases h:chkE l=0
  · rw [if_pos h];exact book_len (ledgerOk h)
  · rw [if_neg h];simp
theorem rd_form (t:List UInt8):∃ (f:Lg) (k e:Int),rdV t=.tup [f.av,.int .i64 k,.int .i64 e]∧f.fs.length≤1000∧f.bs.length≤1000∧∀ x ∈ f.fs,x.uses.length≤1000:=by
  rcases rd_inv t with ⟨k,e,hr,_⟩|⟨f,hr,hE,_⟩
  · exact ⟨l0,k,e,hr,by simp [l0],by simp [l0],by simp [l0]⟩
  · have hO:=ledgerOk hE
    exact ⟨f,0,0,hr,by have:=hO.fn;omega,by have:=hO.bn;omega,fun x hx=>by have:=(hO.f x hx).many;omega⟩
theorem law3 (x:Lg) (text:List UInt8) (l:List Int) (at_ how b:Int) (hx:(x.fs.length:Int)≤9223372036854775807) (ht:text.length≤maxLen) (hl:(l.length:Int)≤9223372036854775807)
    (ha:-9223372036854775808≤at_∧at_≤9223372036854775807) (hh:-9223372036854775808≤how∧how≤9223372036854775807):LawG gT Tryz.prog 3 [x.av,.str text,.lst 1 (l.map iv),.int .i64 at_,.int .i64 how,.int .u8 b]:=by
  intro h hgl
  have ht2:(text.length:Int)≤9223372036854775807:=by
    have:maxLen=9223372036854775807:=by decide
    omega
  have k6:PureG gT Tryz.prog 6 [] (fun v=>v=.bool true):=c6.g
  have k5:=c5 x hx
  cases hL:longB x with
  | true =>
    rw [hL] at k5
    refine ACalls.of tab mixed Tryz.call3 Tryz.func3 rfl (fi:=⟨130,[21,24,46],[6,44,46,79,89],none,[(3,[0,0,2,6,15,0,32,31,255],[(0,true),(1,false),(5,false),(6,false),(2,false),(3,false),(4,false),(7,false),(8,false)])]⟩) rfl rfl (Nat.le_of_ble_eq_true rfl) (by decide) ?_
    unfold startA
    try simp only[go_sem]
    repeat' (first|refine st_seq_reg rfl (by first|(simp only[go_sem,length_map];rfl)|rfl) (by first|(simp only[go_sem,length_map];rfl)|rfl) ?_|refine st_op ?_|refine st_det rfl (by simp (disch:=omega) only[go_sem,wr_i64,if_yes,if_no,↓reduceIte,reduceAdd,reduceMul,reduceEqDiff,Nat.reduceBEq,reduceLeDiff,length_map];rfl) ?_|(refine st_pureE (by first|(simp (disch:=omega) only[go_sem,length_map];rfl)|rfl) rfl (k5) (by first|(simp only[go_sem,length_map];rfl)|rfl) (by intro n;first|(simp (disch:=omega) only[go_sem];rfl)|rfl) ?_;intro n hn)|(refine st_pureGE (by first|(simp (disch:=omega) only[go_sem,length_map];rfl)|rfl) rfl (k6) (by exact hgl) (by first|(simp only[go_sem,length_map];rfl)|rfl) (by intro n;first|(simp (disch:=omega) only[go_sem];rfl)|rfl) ?_;intro n hn)|refine st_gF rfl rfl rfl ?_|refine st_condT rfl ?_|refine st_nil ?_|refine st_seq ?_|refine st_ret ?_|refine st_tR ?_)
    all_goals try (exfalso;omega)
    simp (disch:=omega) only[AEnd,Tryz.results3,aresK,fin,go_sem,↓reduceIte,reduceEqDiff,reduceAdd,reduceLeDiff,if_yes,if_no,implies_true,true_and,and_true,List.reverse_cons,List.reverse_nil]
  | false =>
  rw [hL] at k5
  by_cases h15:1200 < text.length∧text.length≤2000
  · obtain ⟨h15,h3⟩:=h15
    refine ACalls.of tab mixed Tryz.call3 Tryz.func3 rfl (fi:=⟨130,[21,24,46],[6,44,46,79,89],none,[(3,[0,0,2,6,15,0,32,31,255],[(0,true),(1,false),(5,false),(6,false),(2,false),(3,false),(4,false),(7,false),(8,false)])]⟩) rfl rfl (Nat.le_of_ble_eq_true rfl) (by decide) ?_
    unfold startA
    try simp only[go_sem]
    repeat' (first|refine st_seq_reg rfl (by first|(simp only[go_sem,length_map];rfl)|rfl) (by first|(simp only[go_sem,length_map];rfl)|rfl) ?_|refine st_seq_draw rfl (by first|(simp only[go_sem,length_map];rfl)|rfl) (by first|(simp only[go_sem,length_map];rfl)|rfl) ?_|refine st_op ?_|refine st_det rfl (by simp (disch:=omega) only[go_sem,wr_i64,if_yes,if_no,↓reduceIte,reduceAdd,reduceMul,reduceEqDiff,Nat.reduceBEq,reduceLeDiff,length_map];rfl) ?_|refine st_dop rfl ?_|(refine st_pureE (by first|(simp (disch:=omega) only[go_sem,length_map];rfl)|rfl) rfl (k5) (by first|(simp only[go_sem,length_map];rfl)|rfl) (by intro n;first|(simp (disch:=omega) only[go_sem];rfl)|rfl) ?_;intro n hn)|(refine st_pureGE (by first|(simp (disch:=omega) only[go_sem,length_map];rfl)|rfl) rfl (k6) (by exact hgl) (by first|(simp only[go_sem,length_map];rfl)|rfl) (by intro n;first|(simp (disch:=omega) only[go_sem];rfl)|rfl) ?_;intro n hn)|refine st_gT rfl rfl rfl ?_|refine st_gF rfl rfl rfl ?_|(refine st_gS rfl rfl ?_ ?_ <;> intro hg <;> (try simp only[decide_eq_true_eq,decide_eq_false_iff_not,Bool.not_eq_true',Bool.not_eq_false'] at hg))|refine st_condF rfl ?_|(refine st_condS rfl ?_ ?_ <;> intro hg <;> (try simp only[decide_eq_true_eq,decide_eq_false_iff_not,Bool.not_eq_true',Bool.not_eq_false'] at hg))|refine st_nil ?_|refine st_tN ?_|refine st_seq ?_|refine st_skip ?_|refine st_ret ?_|refine st_tR ?_)
    all_goals try (exfalso;omega)
    simp (disch:=omega) only[AEnd,Tryz.results3,aresK,fin,go_sem,↓reduceIte,reduceEqDiff,reduceAdd,reduceLeDiff,if_yes,if_no,implies_true,true_and,and_true,List.reverse_cons,List.reverse_nil]
  refine ACalls.ofS tab Tryz.call3 Tryz.func3 rfl (fi:=⟨130,[21,24,46],[6,44,46,79,89],none,[(3,[0,0,2,6,15,0,32,31,255],[(0,true),(1,false),(5,false),(6,false),(2,false),(3,false),(4,false),(7,false),(8,false)])]⟩) rfl rfl (Nat.le_of_ble_eq_true rfl) ?_
  unfold startA
  try simp only[go_sem]
  refine asem_seq (fi:=⟨130,[21,24,46],[6,44,46,79,89],none,[(3,[0,0,2,6,15,0,32,31,255],[(0,true),(1,false),(5,false),(6,false),(2,false),(3,false),(4,false),(7,false),(8,false)])]⟩) tab mixed (by decide) ?_
  repeat' (first|refine st_reg rfl (by first|(simp only[go_sem];rfl)|rfl) (by first|(simp only[go_sem];rfl)|rfl) ?_|refine st_op ?_|refine st_det rfl (by simp (disch:=omega) only[go_sem,wr_i64,if_yes,if_no,↓reduceIte,reduceAdd,reduceMul,reduceEqDiff,Nat.reduceBEq,reduceLeDiff];rfl) ?_|refine st_nil ?_|refine st_tN ?_)
  refine asem_cutL (α:=Unit) (fi:=⟨130,[21,24,46],[6,44,46,79,89],none,[(3,[0,0,2,6,15,0,32,31,255],[(0,true),(1,false),(5,false),(6,false),(2,false),(3,false),(4,false),(7,false),(8,false)])]⟩) tab mixed (fun _=>[(1,.str text),(2,.lst 1 (l.map iv)),(3,.int .i64 at_),(4,.int .i64 how),(5,.int .u8 b),(6,.iptr x.av.cells 0),(12,.bool false)]) (fun _=>[]) (fun _=>h) (fun _=>True) (by decide) ?_ ?_
  · repeat' (first|refine st_seq_reg rfl (by first|(simp only[go_sem,length_map];rfl)|rfl) (by first|(simp only[go_sem,length_map];rfl)|rfl) ?_|refine st_op ?_|refine st_det rfl (by simp (disch:=omega) only[go_sem,wr_i64,if_yes,if_no,↓reduceIte,reduceAdd,reduceMul,reduceEqDiff,Nat.reduceBEq,reduceLeDiff,length_map];rfl) ?_|(refine st_pureE (by first|(simp (disch:=omega) only[go_sem,length_map];rfl)|rfl) rfl (k5) (by first|(simp only[go_sem,length_map];rfl)|rfl) (by intro n;first|(simp (disch:=omega) only[go_sem];rfl)|rfl) ?_;intro n hn)|refine st_gT rfl rfl rfl ?_|refine st_gF rfl rfl rfl ?_|(refine st_gS rfl rfl ?_ ?_ <;> intro hg <;> (try simp only[decide_eq_true_eq,decide_eq_false_iff_not,Bool.not_eq_true',Bool.not_eq_false'] at hg))|refine st_condF rfl ?_|(refine st_condS rfl ?_ ?_ <;> intro hg <;> (try simp only[decide_eq_true_eq,decide_eq_false_iff_not,Bool.not_eq_true',Bool.not_eq_false'] at hg))|refine st_nil ?_|refine st_tN ?_|refine st_skip ?_)
    all_goals try (exfalso;omega)
    all_goals exact ⟨(),trivial,⟨rfl,rfl,rfl,rfl,rfl,rfl,rfl,trivial⟩,trivial,rfl,HOld.tick (by (try simp only[go_sem]);omega)⟩
  intro _ n hi_ hn
  clear hi_
  simp only[go_sem] at hn ⊢
  refine asem_seq (fi:=⟨130,[21,24,46],[6,44,46,79,89],none,[(3,[0,0,2,6,15,0,32,31,255],[(0,true),(1,false),(5,false),(6,false),(2,false),(3,false),(4,false),(7,false),(8,false)])]⟩) tab mixed (by decide) ?_
  repeat' (first|refine st_draw rfl (by first|(simp only[go_sem];rfl)|rfl) (by first|(simp only[go_sem];rfl)|rfl) ?_|refine st_det rfl (by simp (disch:=omega) only[go_sem,wr_i64,if_yes,if_no,↓reduceIte,reduceAdd,reduceMul,reduceEqDiff,Nat.reduceBEq,reduceLeDiff];rfl) ?_|refine st_dop rfl ?_|(refine st_callf rfl rfl (ACalls.keepGl (c8 l hl _)) ?_;rintro v h' ⟨hgl1,bd,xd,nd,rfl,hb1,hb2,hu0,rfl⟩)|(refine st_drum (by first|(simp (disch:=omega) only[go_sem];rfl)|rfl) rfl (c7 bd 5 5 900 (by decide) (by decide) (by decide)) (by first|(simp (disch:=omega) only[go_sem];rfl)|rfl|exact put_same _ _ _) (by assumption) (by first|(simp only[go_sem];rfl)|rfl) (by intro x' n;first|(simp (disch:=omega) only[go_sem];rfl)|rfl) ?_;rintro v x' n hu' ⟨f,rfl,hG⟩ hn)|refine st_dnil ?_|refine st_tN ?_)
  have hgp:((h.tick n).put bd (dr x')).gl=gT:=hgl
  have k9x:=c9 x
  have k10x:=c10 x
  have k9f:=c9 f
  have k10f:=c10 f
  rw [wr_form] at k9x k10x k9f k10f
  have lx:=wS_len x
  have lf:=wS_len f
  obtain ⟨s1,hs1⟩:∃ s,s=wS x:=⟨_,rfl⟩
  obtain ⟨s2,hs2⟩:∃ s,s=wS f:=⟨_,rfl⟩
  rw [← hs1] at k9x k10x lx
  rw [← hs2] at k9f k10f lf
  clear hs1 hs2
  obtain ⟨H0,hH0⟩:∃ H0,H0=(h.tick n).put bd (dr x'):=⟨_,rfl⟩
  rw [← hH0] at hgp ⊢
  clear hH0
  refine asem_seq (fi:=⟨130,[21,24,46],[6,44,46,79,89],none,[(3,[0,0,2,6,15,0,32,31,255],[(0,true),(1,false),(5,false),(6,false),(2,false),(3,false),(4,false),(7,false),(8,false)])]⟩) tab mixed (by decide) ?_
  repeat' (first|refine st_seq_reg rfl (by first|(simp only[go_sem];rfl)|rfl) (by first|(simp only[go_sem];rfl)|rfl) ?_|refine st_op ?_|refine st_det rfl (by simp (disch:=omega) only[go_sem,wr_i64,if_yes,if_no,↓reduceIte,reduceAdd,reduceMul,reduceEqDiff,Nat.reduceBEq,reduceLeDiff];rfl) ?_|refine st_nil ?_|refine st_block ?_)
  refine st_loopH (α:=Nat × AV × AH) tab mixed [] [] (by repeat (first|exact trivial|refine ⟨rfl,?_⟩)) [] [] (by repeat (first|exact trivial|refine ⟨rfl,?_⟩)) (fun a=>[(15,.int .i64 (a.1:Nat)),(14,a.2.1)]) [(3,_),(4,_),(5,_),(12,_),(13,_)] (fun _=>[]) [] (fun a=>a.2.2) (fun a=>a.2.2.gl=gT∧((a.1=0∧a.2.1=.lstx 1 [[.str text]]) ∨ (a.1=1∧SlA 0 a.2.2 a.2.1 1 [[.str text],[.str s1]]) ∨ (a.1=2∧SlA 0 a.2.2 a.2.1 1 [[.str text],[.str s1],[.str s2]]))) (fun a=>2 - a.1) (by decide) (0,.lstx 1 [[.str text]],_) (by exact ⟨hgp,.inl ⟨rfl,rfl⟩⟩) (by (try simp only[go_sem]);repeat' (first|exact trivial|refine And.intro ?_ ?_|rfl|(simp (disch:=omega) only[go_sem,if_yes,if_no,↓reduceIte,reduceAdd,reduceMul,reduceEqDiff,Nat.reduceBEq,reduceLeDiff];rfl)|(simp (disch:=omega) only[go_sem,if_yes,if_no,↓reduceIte,reduceAdd,reduceMul,reduceEqDiff,Nat.reduceBEq,reduceLeDiff]))) (by (try simp only[go_sem]);repeat' (first|exact trivial|refine And.intro ?_ ?_|rfl|(simp (disch:=omega) only[go_sem,if_yes,if_no,↓reduceIte,reduceAdd,reduceMul,reduceEqDiff,Nat.reduceBEq,reduceLeDiff];rfl)|(simp (disch:=omega) only[go_sem,if_yes,if_no,↓reduceIte,reduceAdd,reduceMul,reduceEqDiff,Nat.reduceBEq,reduceLeDiff]))) (HOld.refl _) ?_
  rintro ⟨i,v,g⟩ c ⟨hgl,hcs⟩ hc
  dsimp only at hgl hcs hc
  simp only[go_sem]
  rcases hcs with ⟨rfl,rfl⟩|⟨rfl,hS⟩|⟨rfl,hS⟩
  · repeat' (first|refine st_seq_reg rfl (by first|(simp only[go_sem,big];rfl)|rfl) (by first|(simp only[go_sem,big];rfl)|rfl) ?_|refine st_reg rfl (by first|(simp only[go_sem,big];rfl)|rfl) (by first|(simp only[go_sem,big];rfl)|rfl) ?_|refine st_op ?_|refine st_det rfl (by simp (disch:=omega) only[go_sem,wr_i64,if_yes,if_no,↓reduceIte,reduceAdd,reduceMul,reduceEqDiff,Nat.reduceBEq,reduceLeDiff,big];rfl) ?_|refine st_append (by simp (disch:=omega) only[go_sem,wr_i64,if_yes,if_no,↓reduceIte,reduceAdd,reduceMul,reduceEqDiff,Nat.reduceBEq,reduceLeDiff,big];rfl) ?_|(refine st_pureGE (by first|(simp (disch:=omega) only[go_sem,big];rfl)|rfl) rfl (k9x) (by exact hgl) (by first|(simp only[go_sem,big];rfl)|rfl) (by intro n;first|(simp (disch:=omega) only[go_sem];rfl)|rfl) ?_;intro n hn)|(refine st_pureGE (by first|(simp (disch:=omega) only[go_sem,big];rfl)|rfl) rfl (k10x) (by exact hgl) (by first|(simp only[go_sem,big];rfl)|rfl) (by intro n;first|(simp (disch:=omega) only[go_sem];rfl)|rfl) ?_;intro n hn)|refine st_gT rfl rfl rfl ?_|refine st_condT rfl ?_|refine st_condF rfl ?_|refine st_nil ?_|refine st_tN ?_|refine st_seq ?_|refine st_block ?_|refine st_skip ?_|refine st_bN ?_)
    all_goals try (exfalso;omega)
    refine ⟨(1,.slc (n+1,80) 1 0 2,_),(by exact ⟨hgl,.inr (.inl ⟨rfl,.inr ⟨(n+1,80),rfl,put_same _ _ _,Nat.zero_le _,by (try simp only[go_sem]);omega⟩⟩)⟩),(by show 2 - 1 < 2 - 0;omega),(by repeat' (first|exact trivial|refine And.intro ?_ ?_|rfl|(simp (disch:=omega) only[go_sem,if_yes,if_no,↓reduceIte,reduceAdd,reduceMul,reduceEqDiff,Nat.reduceBEq,reduceLeDiff];rfl)|(simp (disch:=omega) only[go_sem,if_yes,if_no,↓reduceIte,reduceAdd,reduceMul,reduceEqDiff,Nat.reduceBEq,reduceLeDiff]))),(by repeat' (first|exact trivial|refine And.intro ?_ ?_|rfl|(simp (disch:=omega) only[go_sem,if_yes,if_no,↓reduceIte,reduceAdd,reduceMul,reduceEqDiff,Nat.reduceBEq,reduceLeDiff];rfl)|(simp (disch:=omega) only[go_sem,if_yes,if_no,↓reduceIte,reduceAdd,reduceMul,reduceEqDiff,Nat.reduceBEq,reduceLeDiff]))),rfl,HOld.refl _⟩
  · have hnc:=hS.noL
    repeat' (first|refine st_seq_reg rfl (by first|(simp only[go_sem,hnc];rfl)|rfl) (by first|(simp only[go_sem,hnc];rfl)|rfl) ?_|refine st_reg rfl (by first|(simp only[go_sem,hnc];rfl)|rfl) (by first|(simp only[go_sem,hnc];rfl)|rfl) ?_|refine st_op ?_|refine st_det rfl (by simp (disch:=omega) only[go_sem,wr_i64,if_yes,if_no,↓reduceIte,reduceAdd,reduceMul,reduceEqDiff,Nat.reduceBEq,reduceLeDiff,hnc];rfl) ?_|(refine st_pureGE (by first|(simp (disch:=omega) only[go_sem,hnc];rfl)|rfl) rfl (k9f) (by exact hgl) (by first|(simp only[go_sem,hnc];rfl)|rfl) (by intro n;first|(simp (disch:=omega) only[go_sem];rfl)|rfl) ?_;intro n hn)|(refine st_pureGE (by first|(simp (disch:=omega) only[go_sem,hnc];rfl)|rfl) rfl (k10f) (by exact hgl) (by first|(simp only[go_sem,hnc];rfl)|rfl) (by intro n;first|(simp (disch:=omega) only[go_sem];rfl)|rfl) ?_;intro n hn)|(refine st_appSg (by intro h id x y;simp only[go_sem];rfl) rfl (by simp only[go_sem,hnc];rfl) (by first|(simp only[go_sem,hnc];rfl)|rfl) (by decide) hS (fun _ _ _=>rfl) (by omega) (by simp only[length_map,List.length_cons,List.length_nil,big,hnc];omega) (by omega) (by omega) ?_;intro v' g' hA hAg)|refine st_gT rfl rfl rfl ?_|refine st_condT rfl ?_|refine st_condF rfl ?_|refine st_nil ?_|refine st_tN ?_|refine st_seq ?_|refine st_block ?_|refine st_skip ?_|refine st_bN ?_)
    all_goals try (exfalso;omega)
    refine ⟨(2,v',_),(by exact ⟨hAg.trans hgl,.inr (.inr ⟨rfl,hA.sl.to (fun _ _ _ _ _=>rfl) (by (try simp only[go_sem]);omega)⟩)⟩),(by show 2 - 2 < 2 - 1;omega),(by repeat' (first|exact trivial|refine And.intro ?_ ?_|rfl|(simp (disch:=omega) only[go_sem,if_yes,if_no,↓reduceIte,reduceAdd,reduceMul,reduceEqDiff,Nat.reduceBEq,reduceLeDiff];rfl)|(simp (disch:=omega) only[go_sem,if_yes,if_no,↓reduceIte,reduceAdd,reduceMul,reduceEqDiff,Nat.reduceBEq,reduceLeDiff]))),(by repeat' (first|exact trivial|refine And.intro ?_ ?_|rfl|(simp (disch:=omega) only[go_sem,if_yes,if_no,↓reduceIte,reduceAdd,reduceMul,reduceEqDiff,Nat.reduceBEq,reduceLeDiff];rfl)|(simp (disch:=omega) only[go_sem,if_yes,if_no,↓reduceIte,reduceAdd,reduceMul,reduceEqDiff,Nat.reduceBEq,reduceLeDiff]))),rfl,HOld.refl _⟩
  have hnc:=hS.noL
  have hS0:=hS
  obtain ⟨b1,rfl,hbb,_,hlt1⟩:=hS0.resolve_left (by rintro ⟨_,q⟩;cases q)
  repeat' (first|refine st_seq_reg rfl (by first|(simp only[go_sem];rfl)|rfl) (by first|(simp only[go_sem];rfl)|rfl) ?_|refine st_op ?_|refine st_det rfl (by simp (disch:=omega) only[go_sem,wr_i64,if_yes,if_no,↓reduceIte,reduceAdd,reduceMul,reduceEqDiff,Nat.reduceBEq,reduceLeDiff];rfl) ?_|refine st_condF rfl ?_|refine st_nil ?_|refine st_tN ?_|refine st_seq ?_|refine st_exit ?_|refine st_tE ?_|refine st_bH ?_)
  all_goals try (exfalso;omega)
  refine asem_seq (fi:=⟨130,[21,24,46],[6,44,46,79,89],none,[(3,[0,0,2,6,15,0,32,31,255],[(0,true),(1,false),(5,false),(6,false),(2,false),(3,false),(4,false),(7,false),(8,false)])]⟩) tab mixed (by decide) ?_
  repeat' (first|refine st_reg rfl (by first|(simp only[go_sem,hbb];rfl)|rfl) (by first|(simp only[go_sem,hbb];rfl)|rfl) ?_|refine st_op ?_|refine st_det rfl (by simp (disch:=omega) only[go_sem,wr_i64,if_yes,if_no,↓reduceIte,reduceAdd,reduceMul,reduceEqDiff,Nat.reduceBEq,reduceLeDiff,hbb];rfl) ?_|refine st_append (by simp (disch:=omega) only[go_sem,wr_i64,if_yes,if_no,↓reduceIte,reduceAdd,reduceMul,reduceEqDiff,Nat.reduceBEq,reduceLeDiff,hbb];rfl) ?_|(refine st_pure (by first|(simp (disch:=omega) only[go_sem,hbb];rfl)|rfl) rfl (c11 s2 at_ how b (by omega) ha hh) (by first|(simp only[go_sem,hbb];rfl)|rfl) (by intro n;first|(simp (disch:=omega) only[go_sem];rfl)|rfl) ?_;rintro v n ⟨s3,rfl,l3⟩ hn)|refine st_nil ?_|refine st_tN ?_)
  all_goals try (exfalso;omega)
  refine ASem.cutKg 14 1 [[.str text],[.str s1],[.str s2],[.str s3]] (.inr ⟨(c+1,90),by simp [upd],put_same _ _ _⟩) fun H1 h1a h1b h1c h1d=>?_
  have hgl3:H1.gl=gT:=h1d.trans hgl
  clear hgl h1a h1b h1c h1d hnc hS hbb hlt1
  have hgl:=hgl3
  refine asem_seq (fi:=⟨130,[21,24,46],[6,44,46,79,89],none,[(3,[0,0,2,6,15,0,32,31,255],[(0,true),(1,false),(5,false),(6,false),(2,false),(3,false),(4,false),(7,false),(8,false)])]⟩) tab mixed (by decide) ?_
  repeat' (first|refine st_seq_reg rfl (by first|(simp only[go_sem];rfl)|rfl) (by first|(simp only[go_sem];rfl)|rfl) ?_|refine st_op ?_|refine st_det rfl (by simp (disch:=omega) only[go_sem,wr_i64,if_yes,if_no,↓reduceIte,reduceAdd,reduceMul,reduceEqDiff,Nat.reduceBEq,reduceLeDiff];rfl) ?_|refine st_nil ?_|refine st_block ?_)
  refine st_loopC (α:=Nat) tab mixed [] [] (by repeat (first|exact trivial|refine ⟨rfl,?_⟩)) [] [] (by repeat (first|exact trivial|refine ⟨rfl,?_⟩)) (fun i=>[(20,.int .i64 (i:Nat))]) [(12,_),(14,_)] (fun _=>[]) [] (fun i=>i≤4) (fun i=>4 - i) (by decide) 0 (Nat.zero_le _) (by (try simp only[go_sem]);repeat' (first|exact trivial|refine And.intro ?_ ?_|rfl|(simp (disch:=omega) only[go_sem,if_yes,if_no,↓reduceIte,reduceAdd,reduceMul,reduceEqDiff,Nat.reduceBEq,reduceLeDiff];rfl)|(simp (disch:=omega) only[go_sem,if_yes,if_no,↓reduceIte,reduceAdd,reduceMul,reduceEqDiff,Nat.reduceBEq,reduceLeDiff]))) (by (try simp only[go_sem]);repeat' (first|exact trivial|refine And.intro ?_ ?_|rfl|(simp (disch:=omega) only[go_sem,if_yes,if_no,↓reduceIte,reduceAdd,reduceMul,reduceEqDiff,Nat.reduceBEq,reduceLeDiff];rfl)|(simp (disch:=omega) only[go_sem,if_yes,if_no,↓reduceIte,reduceAdd,reduceMul,reduceEqDiff,Nat.reduceBEq,reduceLeDiff]))) (by first|(simp only[go_sem];rfl)|rfl) (by intro n;simp only[go_sem];rfl) ?_
  rintro i c5 hi hc5
  simp only[go_sem]
  by_cases hil:i < 4
  case neg =>
    obtain rfl:i=4:=by omega
    repeat' (first|refine st_seq_reg rfl (by first|(simp only[go_sem,List.length_cons,List.length_nil];rfl)|rfl) (by first|(simp only[go_sem,List.length_cons,List.length_nil];rfl)|rfl) ?_|refine st_op ?_|refine st_det rfl (by simp (disch:=omega) only[go_sem,wr_i64,if_yes,if_no,↓reduceIte,reduceAdd,reduceMul,reduceEqDiff,Nat.reduceBEq,reduceLeDiff,List.length_cons,List.length_nil];rfl) ?_|refine st_condF rfl ?_|refine st_nil ?_|refine st_tN ?_|refine st_seq ?_|refine st_exit ?_|refine st_tE ?_|refine st_bH ?_)
    all_goals try (exfalso;omega)
    refine asem_awp (fi:=⟨130,[21,24,46],[6,44,46,79,89],none,[(3,[0,0,2,6,15,0,32,31,255],[(0,true),(1,false),(5,false),(6,false),(2,false),(3,false),(4,false),(7,false),(8,false)])]⟩) tab mixed (by decide) ?_
    repeat' (first|refine st_seq_reg rfl (by first|(simp only[go_sem];rfl)|rfl) (by first|(simp only[go_sem];rfl)|rfl) ?_|refine st_op ?_|refine st_det rfl (by simp (disch:=omega) only[go_sem,wr_i64,if_yes,if_no,↓reduceIte,reduceAdd,reduceMul,reduceEqDiff,Nat.reduceBEq,reduceLeDiff];rfl) ?_|(refine st_pureGE (by first|(simp (disch:=omega) only[go_sem];rfl)|rfl) rfl (k6) (by exact hgl) (by first|(simp only[go_sem];rfl)|rfl) (by intro n;first|(simp (disch:=omega) only[go_sem];rfl)|rfl) ?_;intro n hn)|refine st_nil ?_|refine st_ret ?_)
    simp (disch:=omega) only[AEnd,Tryz.results3,aresK,fin,go_sem,↓reduceIte,reduceEqDiff,reduceAdd,reduceLeDiff,if_yes,if_no,implies_true,true_and,and_true,List.reverse_cons,List.reverse_nil]
  obtain ⟨t,ht1,ht2⟩:∃ t,[[AV.str text],[.str s1],[.str s2],[.str s3]].getD i []=[.str t]∧(t.length:Int)≤9223372036854775807:=by
    have hq:i=0 ∨ i=1 ∨ i=2 ∨ i=3:=by omega
    rcases hq with rfl|rfl|rfl|rfl
    · exact ⟨text,rfl,ht2⟩
    · exact ⟨s1,rfl,by omega⟩
    · exact ⟨s2,rfl,by omega⟩
    · exact ⟨s3,rfl,by omega⟩
  obtain ⟨F,k,e,hr,hF1,hF2,hF3⟩:=rd_form t
  have k12:=c12 t ht2
  have k13:=c13 t ht2
  rw [hr] at k12 k13
  have k14:=c14s F (by omega) (by omega) (fun x hx=>by have:=hF3 x hx;omega)
  repeat' (first|refine st_seq_reg rfl (by first|(simp only[go_sem,List.length_cons,List.length_nil,ht1];rfl)|rfl) (by first|(simp only[go_sem,List.length_cons,List.length_nil,ht1];rfl)|rfl) ?_|refine st_reg rfl (by first|(simp only[go_sem,List.length_cons,List.length_nil,ht1];rfl)|rfl) (by first|(simp only[go_sem,List.length_cons,List.length_nil,ht1];rfl)|rfl) ?_|refine st_op ?_|refine st_det rfl (by simp (disch:=omega) only[go_sem,wr_i64,if_yes,if_no,↓reduceIte,reduceAdd,reduceMul,reduceEqDiff,Nat.reduceBEq,reduceLeDiff,List.length_cons,List.length_nil,ht1];rfl) ?_|refine st_loc rfl (by simp (disch:=omega) only[go_sem,wr_i64,if_yes,if_no,↓reduceIte,reduceAdd,reduceMul,reduceEqDiff,Nat.reduceBEq,reduceLeDiff,List.length_cons,List.length_nil,ht1];rfl) ?_|refine st_store (by simp (disch:=omega) only[go_sem,wr_i64,if_yes,if_no,↓reduceIte,reduceAdd,reduceMul,reduceEqDiff,Nat.reduceBEq,reduceLeDiff,List.length_cons,List.length_nil,ht1];rfl) ?_|(refine st_pureGE (by first|(simp (disch:=omega) only[go_sem,List.length_cons,List.length_nil,ht1];rfl)|rfl) rfl (k12) (by exact hgl) (by first|(simp only[go_sem,List.length_cons,List.length_nil,ht1];rfl)|rfl) (by intro n;first|(simp (disch:=omega) only[go_sem];rfl)|rfl) ?_;intro n hn)|(refine st_pureGE (by first|(simp (disch:=omega) only[go_sem,List.length_cons,List.length_nil,ht1];rfl)|rfl) rfl (k13) (by exact hgl) (by first|(simp only[go_sem,List.length_cons,List.length_nil,ht1];rfl)|rfl) (by intro n;first|(simp (disch:=omega) only[go_sem];rfl)|rfl) ?_;intro n hn)|(refine st_pureE (by first|(simp (disch:=omega) only[go_sem,List.length_cons,List.length_nil,ht1];rfl)|rfl) rfl (k14) (by first|(simp only[go_sem,List.length_cons,List.length_nil,ht1];rfl)|rfl) (by intro n;first|(simp (disch:=omega) only[go_sem];rfl)|rfl) ?_;intro n hn)|refine st_gT rfl rfl rfl ?_|refine st_condF rfl ?_|(refine st_condS rfl ?_ ?_ <;> intro hg <;> (try simp only[decide_eq_true_eq,decide_eq_false_iff_not,Bool.not_eq_true',Bool.not_eq_false'] at hg))|refine st_nil ?_|refine st_tN ?_|refine st_seq ?_|refine st_block ?_|refine st_skip ?_|refine st_exit ?_|refine st_tE ?_|refine st_bN ?_|refine st_bH ?_)
  all_goals try (exfalso;omega)
  refine ⟨i+1,(by omega),by omega,(by repeat' (first|exact trivial|refine And.intro ?_ ?_|rfl|(simp (disch:=omega) only[go_sem,if_yes,if_no,↓reduceIte,reduceAdd,reduceMul,reduceEqDiff,Nat.reduceBEq,reduceLeDiff];rfl)|(simp (disch:=omega) only[go_sem,if_yes,if_no,↓reduceIte,reduceAdd,reduceMul,reduceEqDiff,Nat.reduceBEq,reduceLeDiff]))),(by repeat' (first|exact trivial|refine And.intro ?_ ?_|rfl|(simp (disch:=omega) only[go_sem,if_yes,if_no,↓reduceIte,reduceAdd,reduceMul,reduceEqDiff,Nat.reduceBEq,reduceLeDiff];rfl)|(simp (disch:=omega) only[go_sem,if_yes,if_no,↓reduceIte,reduceAdd,reduceMul,reduceEqDiff,Nat.reduceBEq,reduceLeDiff]))),rfl,(by first|exact HOld.of _ (by omega)|exact HOld.put _ _ _ (by omega))⟩
end Go.Proofs.YtefogfgddofdmaaGreatDoor
