/- Contracts of functions that the claim reaches: what each call gives, told in our own logic. Conditions: those of each theorem. -/
import Derived.Test.YthjbfdfhblloiaaQ29
import Derived.Test.YthjbfdfhblloiaaQ3
import Derived.Test.YthjbfdfhblloiaaQ11
open Nat (reduceAdd reduceMul reduceEqDiff reduceLeDiff)
open List (length_map)
set_option linter.all false
set_option linter.unusedSimpArgs false
set_option linter.unusedVariables false
namespace Go.Proofs.Ythjbfdfhblloiaa
open Go.Av
attribute [local irreducible] thenA blockA awp awpOps awpD awp1
set_option maxHeartbeats 8000000
set_option maxRecDepth 20000
theorem c84 (t:Tw) (s:List Int) (g:Gp) (came step:Int) (hT:TwOk t) (hG:GpOk t g) (hsl:s.length=t.sts.length) (hc':0≤came∧came≤96) (hs':0≤step∧step≤96):Pure Try.prog 84 [t.av,.lst 1 (s.map iv),.agg g.row,.int .i64 came,.int .i64 step] (fun v=>v=.int .i64 (plc t (elt s) g came step)):=by
  have hst:=hG.stay
  have hsn:=hT.sn
  have hmy:=hG.many
  by_cases h0:step < came
  · intro h
    refine ACalls.forget (ACalls.of tab mixed Try.call84 Try.func84 rfl (fi:=⟨67,[],[5,7],none,[(13,[0,1,0,4,0,28,60,127,255,0,1023,2047],[(0,false),(1,true),(2,false),(3,true),(4,false),(5,false),(6,true),(7,false),(8,true),(9,false),(10,false),(11,false)])]⟩) rfl rfl (Nat.le_of_ble_eq_true rfl) (by decide) ?_)
    unfold startA
    simp only[go_sem]
    repeat' (first|refine st_seq_reg rfl (by first|(simp only[go_sem];rfl)|rfl) (by first|(simp only[go_sem];rfl)|rfl) ?_|refine st_op ?_|refine st_det rfl (by simp (disch:=omega) only[go_sem,wr_i64,if_yes,if_no,↓reduceIte,reduceAdd,reduceMul,reduceEqDiff,Nat.reduceBEq,reduceLeDiff];rfl) ?_|(refine st_condS rfl ?_ ?_ <;> intro hg <;> (try simp only[decide_eq_true_eq,decide_eq_false_iff_not,Bool.not_eq_true',Bool.not_eq_false'] at hg))|refine st_nil ?_|refine st_tN ?_|refine st_seq ?_|refine st_skip ?_|refine st_ret ?_|refine st_tR ?_)
    all_goals try (exfalso;omega)
    simp (disch:=omega) only[AEnd,Try.results84,aresK,fin,go_sem,↓reduceIte,reduceEqDiff,reduceAdd,reduceLeDiff,if_yes,if_no,implies_true,true_and,and_true,List.reverse_cons,List.reverse_nil]
    unfold plc;rw [if_pos h0]
  have hm:=many_bd (s:=step) (c:=came) (k:=g.stay) (by omega) (by omega) hst.1
  have hP:plc t (elt s) g came step=wlk t (elt s) g.path ((step - came).tdiv g.stay).toNat g.first:=by unfold plc;rw [if_neg h0]
  intro h
  refine ACalls.forget (ACalls.of tab mixed Try.call84 Try.func84 rfl (fi:=⟨67,[],[5,7],none,[(13,[0,1,0,4,0,28,60,127,255,0,1023,2047],[(0,false),(1,true),(2,false),(3,true),(4,false),(5,false),(6,true),(7,false),(8,true),(9,false),(10,false),(11,false)])]⟩) rfl rfl (Nat.le_of_ble_eq_true rfl) (by decide) ?_)
  unfold startA
  simp only[go_sem]
  repeat' (first|refine st_seq_reg rfl (by first|(simp only[go_sem,length_map];rfl)|rfl) (by first|(simp only[go_sem,length_map];rfl)|rfl) ?_|refine st_op ?_|refine st_det rfl (by simp (disch:=omega) only[go_sem,wr_i64,if_yes,if_no,↓reduceIte,reduceAdd,reduceMul,reduceEqDiff,Nat.reduceBEq,reduceLeDiff,length_map];rfl) ?_|(refine st_condS rfl ?_ ?_ <;> intro hg <;> (try simp only[decide_eq_true_eq,decide_eq_false_iff_not,Bool.not_eq_true',Bool.not_eq_false'] at hg))|refine st_nil ?_|refine st_tN ?_|refine st_seq ?_|refine st_block ?_|refine st_skip ?_|refine st_ret ?_|refine st_tR ?_)
  all_goals try (exfalso;omega)
  generalize hk:(step - came).tdiv g.stay=k at *
  obtain ⟨k,rfl⟩:∃ m:Nat,k=m:=⟨k.toNat,by omega⟩
  refine st_loopC (α:=Nat × Int) tab mixed [] [] (by repeat (first|exact trivial|refine ⟨rfl,?_⟩)) [] [] (by repeat (first|exact trivial|refine ⟨rfl,?_⟩)) (fun a=>[(13,.int .i64 (a.1:Nat)),(12,.int .i64 a.2)]) [(1,_),(5,_),(7,_),(11,_)] (fun _=>[]) [] (fun a=>a.1≤g.path.length∧a.1≤k∧wlk t (elt s) (g.path.drop a.1) (k - a.1) a.2=plc t (elt s) g came step) (fun a=>g.path.length - a.1) (by decide) (0,g.first) ⟨Nat.zero_le _,Nat.zero_le _,by rw [hP];rfl⟩ (by (try simp only[go_sem]);repeat' (first|exact trivial|refine And.intro ?_ ?_|rfl|(simp (disch:=omega) only[go_sem,if_yes,if_no,↓reduceIte,reduceAdd,reduceMul,reduceEqDiff,Nat.reduceBEq,reduceLeDiff];rfl)|(simp (disch:=omega) only[go_sem,if_yes,if_no,↓reduceIte,reduceAdd,reduceMul,reduceEqDiff,Nat.reduceBEq,reduceLeDiff]))) (by (try simp only[go_sem]);repeat' (first|exact trivial|refine And.intro ?_ ?_|rfl|(simp (disch:=omega) only[go_sem,if_yes,if_no,↓reduceIte,reduceAdd,reduceMul,reduceEqDiff,Nat.reduceBEq,reduceLeDiff];rfl)|(simp (disch:=omega) only[go_sem,if_yes,if_no,↓reduceIte,reduceAdd,reduceMul,reduceEqDiff,Nat.reduceBEq,reduceLeDiff]))) (by first|(simp only[go_sem];rfl)|rfl) (by intro n;simp only[go_sem];rfl) ?_
  rintro ⟨i,q⟩ d ⟨i1,i2,i3⟩ hd
  dsimp only at i1 i2 i3
  simp only[go_sem]
  have q2:=c64 (sx t.sts (elt g.path i).toNat) q
  by_cases hki:k=i
  · subst hki
    have i4:plc t (elt s) g came step=q:=by
      rw [← i3,Nat.sub_self]
      by_cases hi:k < g.path.length
      · rw [wlk_stop hi]
      · rw [List.drop_eq_nil_of_le (by omega)];rfl
    repeat' (first|refine st_seq_reg rfl (by first|(simp only[go_sem,length_map,Nat.zero_add];rfl)|rfl) (by first|(simp only[go_sem,length_map,Nat.zero_add];rfl)|rfl) ?_|refine st_draw rfl (by first|(simp only[go_sem,length_map,Nat.zero_add];rfl)|rfl) (by first|(simp only[go_sem,length_map,Nat.zero_add];rfl)|rfl) ?_|refine st_op ?_|refine st_det rfl (by simp (disch:=omega) only[go_sem,wr_i64,if_yes,if_no,↓reduceIte,reduceAdd,reduceMul,reduceEqDiff,Nat.reduceBEq,reduceLeDiff,length_map,Nat.zero_add];rfl) ?_|refine st_dop rfl ?_|refine st_gT rfl rfl rfl ?_|refine st_gF rfl rfl rfl ?_|(refine st_gS rfl rfl ?_ ?_ <;> intro hg <;> (try simp only[decide_eq_true_eq,decide_eq_false_iff_not,Bool.not_eq_true',Bool.not_eq_false'] at hg))|refine st_condF rfl ?_|(refine st_condS rfl ?_ ?_ <;> intro hg <;> (try simp only[decide_eq_true_eq,decide_eq_false_iff_not,Bool.not_eq_true',Bool.not_eq_false'] at hg))|refine st_nil ?_|refine st_tN ?_|refine st_seq ?_|refine st_block ?_|refine st_skip ?_|refine st_exit ?_|refine st_ret ?_|refine st_tE ?_|refine st_tR ?_|refine st_bN ?_|refine st_bR ?_|refine st_bH ?_)
    all_goals try (exfalso;omega)
    simp (disch:=omega) only[AEnd,Try.results84,aresK,fin,go_sem,↓reduceIte,reduceEqDiff,reduceAdd,reduceLeDiff,if_yes,if_no,implies_true,true_and,and_true,List.reverse_cons,List.reverse_nil]
    rw [i4]
  by_cases hi:i < g.path.length
  case pos =>
    have ha:=hG.st i hi
    have hil:(elt g.path i).toNat < s.length:=by omega
    by_cases s0:elt s (elt g.path i).toNat=0
    · repeat' (first|refine st_seq_reg rfl (by first|(simp only[go_sem,length_map,Nat.zero_add];rfl)|rfl) (by first|(simp only[go_sem,length_map,Nat.zero_add];rfl)|rfl) ?_|refine st_draw rfl (by first|(simp only[go_sem,length_map,Nat.zero_add];rfl)|rfl) (by first|(simp only[go_sem,length_map,Nat.zero_add];rfl)|rfl) ?_|refine st_op ?_|refine st_det rfl (by simp (disch:=omega) only[go_sem,wr_i64,if_yes,if_no,↓reduceIte,reduceAdd,reduceMul,reduceEqDiff,Nat.reduceBEq,reduceLeDiff,length_map,Nat.zero_add];rfl) ?_|refine st_dop rfl ?_|refine st_gT rfl rfl rfl ?_|refine st_gF rfl rfl rfl ?_|(refine st_gS rfl rfl ?_ ?_ <;> intro hg <;> (try simp only[decide_eq_true_eq,decide_eq_false_iff_not,Bool.not_eq_true',Bool.not_eq_false'] at hg))|refine st_condF rfl ?_|(refine st_condS rfl ?_ ?_ <;> intro hg <;> (try simp only[decide_eq_true_eq,decide_eq_false_iff_not,Bool.not_eq_true',Bool.not_eq_false'] at hg))|refine st_nil ?_|refine st_tN ?_|refine st_seq ?_|refine st_block ?_|refine st_skip ?_|refine st_exit ?_|refine st_ret ?_|refine st_tE ?_|refine st_tR ?_|refine st_bN ?_|refine st_bR ?_|refine st_bH ?_)
      all_goals try (exfalso;omega)
      simp (disch:=omega) only[AEnd,Try.results84,aresK,fin,go_sem,↓reduceIte,reduceEqDiff,reduceAdd,reduceLeDiff,if_yes,if_no,implies_true,true_and,and_true,List.reverse_cons,List.reverse_nil]
      rw [← i3,wlk_zero hi hki i2 s0]
    by_cases s2:elt s (elt g.path i).toNat=2
    · repeat' (first|refine st_seq_reg rfl (by first|(simp only[go_sem,length_map,Nat.zero_add];rfl)|rfl) (by first|(simp only[go_sem,length_map,Nat.zero_add];rfl)|rfl) ?_|refine st_draw rfl (by first|(simp only[go_sem,length_map,Nat.zero_add];rfl)|rfl) (by first|(simp only[go_sem,length_map,Nat.zero_add];rfl)|rfl) ?_|refine st_op ?_|refine st_det rfl (by simp (disch:=omega) only[go_sem,wr_i64,if_yes,if_no,↓reduceIte,reduceAdd,reduceMul,reduceEqDiff,Nat.reduceBEq,reduceLeDiff,length_map,Nat.zero_add];rfl) ?_|refine st_dop rfl ?_|refine st_gT rfl rfl rfl ?_|refine st_gF rfl rfl rfl ?_|(refine st_gS rfl rfl ?_ ?_ <;> intro hg <;> (try simp only[decide_eq_true_eq,decide_eq_false_iff_not,Bool.not_eq_true',Bool.not_eq_false'] at hg))|refine st_condF rfl ?_|(refine st_condS rfl ?_ ?_ <;> intro hg <;> (try simp only[decide_eq_true_eq,decide_eq_false_iff_not,Bool.not_eq_true',Bool.not_eq_false'] at hg))|refine st_nil ?_|refine st_tN ?_|refine st_seq ?_|refine st_block ?_|refine st_skip ?_|refine st_exit ?_|refine st_ret ?_|refine st_tE ?_|refine st_tR ?_|refine st_bN ?_|refine st_bR ?_|refine st_bH ?_)
      all_goals try (exfalso;omega)
      simp (disch:=omega) only[AEnd,Try.results84,aresK,fin,go_sem,↓reduceIte,reduceEqDiff,reduceAdd,reduceLeDiff,if_yes,if_no,implies_true,true_and,and_true,List.reverse_cons,List.reverse_nil]
      rw [← i3,wlk_two hi hki i2 s2]
    repeat' (first|refine st_seq_reg rfl (by first|(simp only[go_sem,length_map,Nat.zero_add];rfl)|rfl) (by first|(simp only[go_sem,length_map,Nat.zero_add];rfl)|rfl) ?_|refine st_reg rfl (by first|(simp only[go_sem,length_map,Nat.zero_add];rfl)|rfl) (by first|(simp only[go_sem,length_map,Nat.zero_add];rfl)|rfl) ?_|refine st_draw rfl (by first|(simp only[go_sem,length_map,Nat.zero_add];rfl)|rfl) (by first|(simp only[go_sem,length_map,Nat.zero_add];rfl)|rfl) ?_|refine st_op ?_|refine st_det rfl (by simp (disch:=omega) only[go_sem,wr_i64,if_yes,if_no,↓reduceIte,reduceAdd,reduceMul,reduceEqDiff,Nat.reduceBEq,reduceLeDiff,length_map,Nat.zero_add];rfl) ?_|refine st_dop rfl ?_|(refine st_pureE (by first|(simp (disch:=omega) only[go_sem,length_map,Nat.zero_add];rfl)|rfl) rfl (q2) (by first|(simp only[go_sem,length_map,Nat.zero_add];rfl)|rfl) (by intro n;first|(simp (disch:=omega) only[go_sem];rfl)|rfl) ?_;intro n hn)|refine st_gT rfl rfl rfl ?_|refine st_gF rfl rfl rfl ?_|(refine st_gS rfl rfl ?_ ?_ <;> intro hg <;> (try simp only[decide_eq_true_eq,decide_eq_false_iff_not,Bool.not_eq_true',Bool.not_eq_false'] at hg))|refine st_condF rfl ?_|(refine st_condS rfl ?_ ?_ <;> intro hg <;> (try simp only[decide_eq_true_eq,decide_eq_false_iff_not,Bool.not_eq_true',Bool.not_eq_false'] at hg))|refine st_nil ?_|refine st_dnil ?_|refine st_tN ?_|refine st_seq ?_|refine st_block ?_|refine st_skip ?_|refine st_exit ?_|refine st_ret ?_|refine st_tE ?_|refine st_tR ?_|refine st_bN ?_|refine st_bR ?_|refine st_bH ?_)
    all_goals try (exfalso;omega)
    refine ⟨(i+1,oth (sx t.sts (elt g.path i).toNat) q),⟨by show i+1≤_;omega,by show i+1≤k;omega,by rw [← i3,wlk_next hi hki i2 (.inr ⟨s0,s2⟩)]⟩,by show g.path.length - (i+1) < g.path.length - i;omega,(by repeat' (first|exact trivial|refine And.intro ?_ ?_|rfl|(simp (disch:=omega) only[go_sem,if_yes,if_no,↓reduceIte,reduceAdd,reduceMul,reduceEqDiff,Nat.reduceBEq,reduceLeDiff];rfl)|(simp (disch:=omega) only[go_sem,if_yes,if_no,↓reduceIte,reduceAdd,reduceMul,reduceEqDiff,Nat.reduceBEq,reduceLeDiff]))),(by repeat' (first|exact trivial|refine And.intro ?_ ?_|rfl|(simp (disch:=omega) only[go_sem,if_yes,if_no,↓reduceIte,reduceAdd,reduceMul,reduceEqDiff,Nat.reduceBEq,reduceLeDiff];rfl)|(simp (disch:=omega) only[go_sem,if_yes,if_no,↓reduceIte,reduceAdd,reduceMul,reduceEqDiff,Nat.reduceBEq,reduceLeDiff]))),rfl,(by first|exact HOld.of _ (by omega)|exact HOld.put _ _ _ (by omega))⟩
  obtain rfl:i=g.path.length:=by omega
  rw [List.drop_eq_nil_of_le (Nat.le_refl _)] at i3
  have i4:plc t (elt s) g came step=if 0 < k - g.path.length then -1 else q:=by rw [← i3];rfl
  rw [if_pos (by omega)] at i4
  repeat' (first|refine st_seq_reg rfl (by first|(simp only[go_sem,length_map,Nat.zero_add];rfl)|rfl) (by first|(simp only[go_sem,length_map,Nat.zero_add];rfl)|rfl) ?_|refine st_draw rfl (by first|(simp only[go_sem,length_map,Nat.zero_add];rfl)|rfl) (by first|(simp only[go_sem,length_map,Nat.zero_add];rfl)|rfl) ?_|refine st_op ?_|refine st_det rfl (by simp (disch:=omega) only[go_sem,wr_i64,if_yes,if_no,↓reduceIte,reduceAdd,reduceMul,reduceEqDiff,Nat.reduceBEq,reduceLeDiff,length_map,Nat.zero_add];rfl) ?_|refine st_dop rfl ?_|refine st_gT rfl rfl rfl ?_|refine st_gF rfl rfl rfl ?_|(refine st_gS rfl rfl ?_ ?_ <;> intro hg <;> (try simp only[decide_eq_true_eq,decide_eq_false_iff_not,Bool.not_eq_true',Bool.not_eq_false'] at hg))|refine st_condF rfl ?_|(refine st_condS rfl ?_ ?_ <;> intro hg <;> (try simp only[decide_eq_true_eq,decide_eq_false_iff_not,Bool.not_eq_true',Bool.not_eq_false'] at hg))|refine st_nil ?_|refine st_tN ?_|refine st_seq ?_|refine st_block ?_|refine st_skip ?_|refine st_exit ?_|refine st_ret ?_|refine st_tE ?_|refine st_tR ?_|refine st_bN ?_|refine st_bR ?_|refine st_bH ?_)
  all_goals try (exfalso;omega)
  simp (disch:=omega) only[AEnd,Try.results84,aresK,fin,go_sem,↓reduceIte,reduceEqDiff,reduceAdd,reduceLeDiff,if_yes,if_no,implies_true,true_and,and_true,List.reverse_cons,List.reverse_nil]
  rw [i4]
def fitV (x n:Int):Int:=if n < 2 then 0 else if x.tmod n < 0 then x.tmod n+n else x.tmod n
theorem fitV_bd {x n:Int} (h:1≤n):0≤fitV x n∧fitV x n < n:=by
  unfold fitV
  by_cases h2:n < 2
  · rw [if_pos h2];omega
  · rw [if_neg h2]
    have h3:x.tmod n < n:=Int.tmod_lt_of_pos _ (by omega)
    have h4:-n < x.tmod n:=Int.lt_tmod_of_pos _ (by omega)
    split <;> omega
theorem fitV_ne {a m n:Int} (ha:0≤a∧a < n) (hm:1≤m∧m≤n - 1):fitV (a+m) n ≠ a:=by
  unfold fitV
  rw [if_neg (by omega)]
  have h0:(a+m).tmod n=(a+m) % n:=Int.tmod_eq_emod_of_nonneg (by omega)
  rw [h0]
  have h1:=Int.emod_nonneg (a+m) (by omega:n ≠ 0)
  rw [if_neg (by omega)]
  by_cases h2:a+m < n
  · rw [Int.emod_eq_of_lt (by omega) h2];omega
  · have:(a+m) % n=a+m - n:=by
      rw [← Int.sub_emod_right,Int.emod_eq_of_lt (by omega) (by omega)]
    rw [this];omega
theorem c21 (x n:Int) (hn:-1000000000≤n∧n≤1000000000) (hx:-9223372036854775808≤x∧x≤9223372036854775807):Pure Try.prog 21 [.int .i64 x,.int .i64 n] (fun v=>v=.int .i64 (fitV x n)):=by
  intro h
  by_cases h2:n < 2
  · refine ACalls.forget (ACalls.of tab mixed Try.call21 Try.func21 rfl (fi:=⟨16,[],[],none,[]⟩) rfl rfl (Nat.le_of_ble_eq_true rfl) (by decide) ?_)
    unfold startA
    repeat' (first|refine st_seq_reg rfl (by first|(simp only[go_sem];rfl)|rfl) (by first|(simp only[go_sem];rfl)|rfl) ?_|refine st_op ?_|refine st_det rfl (by simp (disch:=omega) only[go_sem,wr_i64,if_yes,if_no,↓reduceIte,reduceAdd,reduceMul,reduceEqDiff,Nat.reduceBEq,reduceLeDiff];rfl) ?_|(refine st_condS rfl ?_ ?_ <;> intro hg <;> (try simp only[decide_eq_true_eq,decide_eq_false_iff_not,Bool.not_eq_true',Bool.not_eq_false'] at hg))|refine st_nil ?_|refine st_tN ?_|refine st_seq ?_|refine st_skip ?_|refine st_ret ?_|refine st_tR ?_)
    all_goals try (exfalso;omega)
    simp (disch:=omega) only[AEnd,Try.results21,aresK,fin,go_sem,↓reduceIte,reduceEqDiff,reduceAdd,reduceLeDiff,if_yes,if_no,implies_true,true_and,and_true,List.reverse_cons,List.reverse_nil]
    unfold fitV;rw [if_pos h2]
  have h3:x.tmod n < n:=Int.tmod_lt_of_pos _ (by omega)
  have h4:-n < x.tmod n:=Int.lt_tmod_of_pos _ (by omega)
  have e:fitV x n=if x.tmod n < 0 then x.tmod n+n else x.tmod n:=by unfold fitV;rw [if_neg h2]
  refine ACalls.forget (ACalls.of tab mixed Try.call21 Try.func21 rfl (fi:=⟨16,[],[],none,[]⟩) rfl rfl (Nat.le_of_ble_eq_true rfl) (by decide) ?_)
  unfold startA
  repeat' (first|refine st_seq_reg rfl (by first|(simp only[go_sem];rfl)|rfl) (by first|(simp only[go_sem];rfl)|rfl) ?_|refine st_reg rfl (by first|(simp only[go_sem];rfl)|rfl) (by first|(simp only[go_sem];rfl)|rfl) ?_|refine st_op ?_|refine st_det rfl (by simp (disch:=omega) only[go_sem,wr_i64,if_yes,if_no,↓reduceIte,reduceAdd,reduceMul,reduceEqDiff,Nat.reduceBEq,reduceLeDiff];rfl) ?_|(refine st_condS rfl ?_ ?_ <;> intro hg <;> (try simp only[decide_eq_true_eq,decide_eq_false_iff_not,Bool.not_eq_true',Bool.not_eq_false'] at hg))|refine st_nil ?_|refine st_tN ?_|refine st_seq ?_|refine st_skip ?_|refine st_ret ?_|refine st_tR ?_)
  all_goals try (exfalso;omega)
  all_goals
    simp (disch:=omega) only[AEnd,Try.results21,aresK,fin,go_sem,↓reduceIte,reduceEqDiff,reduceAdd,reduceLeDiff,if_yes,if_no,implies_true,true_and,and_true,List.reverse_cons,List.reverse_nil]
    first|(rw [e,if_pos (by omega)];done)|(rw [e,if_neg (by omega)];done)
theorem c63 (b:Nat × Nat) (lo hi:Int) (h1:-100000000≤lo) (h2:lo≤hi∧hi≤100000000):Drum Try.prog 63 [.ptr b 0 0,.int .i64 lo,.int .i64 hi] b (fun v=>∃ r s,v=.agg [.int .i64 r,.int .i64 s]∧lo≤r∧r≤s∧s≤hi):=by
  refine Drum.of Try.call63 fun h x hx hu hold=>?_
  refine ACalls.of tab mixed Try.call63 Try.func63 rfl (fi:=⟨36,[6],[],none,[]⟩) rfl rfl (Nat.le_of_ble_eq_true rfl) (by decide) ?_
  unfold startA
  repeat' (first|refine st_seq_reg rfl (by first|(simp only[go_sem,hx];rfl)|rfl) (by first|(simp only[go_sem,hx];rfl)|rfl) ?_|refine st_op ?_|refine st_det rfl (by simp (disch:=omega) only[go_sem,wr_i64,if_yes,if_no,↓reduceIte,reduceAdd,reduceMul,reduceEqDiff,Nat.reduceBEq,reduceLeDiff,hx];rfl) ?_|refine st_loc rfl (by simp (disch:=omega) only[go_sem,wr_i64,if_yes,if_no,↓reduceIte,reduceAdd,reduceMul,reduceEqDiff,Nat.reduceBEq,reduceLeDiff,hx];rfl) ?_|refine st_store (by simp (disch:=omega) only[go_sem,wr_i64,if_yes,if_no,↓reduceIte,reduceAdd,reduceMul,reduceEqDiff,Nat.reduceBEq,reduceLeDiff,hx];rfl) ?_|(refine st_drum (by first|(simp (disch:=omega) only[go_sem,hx];rfl)|rfl) rfl (c62' b lo hi (by omega) (by omega)) (by first|(simp (disch:=omega) only[go_sem,hx];rfl)|rfl) (by assumption) (by first|(simp only[go_sem,hx];rfl)|rfl) (by intro x' n;first|(simp (disch:=omega) only[go_sem];rfl)|rfl) ?_;rintro v x' n hu' ⟨r,rfl,hr⟩ hn)|(refine st_drum (by first|(simp (disch:=omega) only[go_sem,hx];rfl)|rfl) rfl (c18' b 3 (by omega)) (by first|(simp (disch:=omega) only[go_sem,hx];rfl)|rfl) (by assumption) (by first|(simp only[go_sem,hx];rfl)|rfl) (by intro x' n;first|(simp (disch:=omega) only[go_sem];rfl)|rfl) ?_;rintro v x' n hu' ⟨s,rfl,hs⟩ hn)|(refine st_condS rfl ?_ ?_ <;> intro hg <;> (try simp only[decide_eq_true_eq,decide_eq_false_iff_not,Bool.not_eq_true',Bool.not_eq_false'] at hg))|refine st_nil ?_|refine st_tN ?_|refine st_seq ?_|refine st_block ?_|refine st_skip ?_|refine st_ret ?_|refine st_tR ?_|refine st_bN ?_|refine st_bR ?_)
  · simp (disch:=omega) only[AEnd,Try.results63,aresK,fin,go_sem,↓reduceIte,reduceEqDiff,reduceAdd,reduceLeDiff,if_yes,if_no,implies_true,true_and,and_true,List.reverse_cons,List.reverse_nil]
    exact ⟨fun b' _ h2=>if_neg h2,⟨_,rfl,by assumption⟩,⟨_,_,rfl,by omega,by omega,by omega⟩⟩
  · repeat' (first|refine st_op ?_|refine st_det rfl (by simp (disch:=omega) only[go_sem,wr_i64,if_yes,if_no,↓reduceIte,reduceAdd,reduceMul,reduceEqDiff,Nat.reduceBEq,reduceLeDiff];rfl) ?_|refine st_store (by simp (disch:=omega) only[go_sem,wr_i64,if_yes,if_no,↓reduceIte,reduceAdd,reduceMul,reduceEqDiff,Nat.reduceBEq,reduceLeDiff];rfl) ?_|(refine st_drum (by first|(simp (disch:=omega) only[go_sem];rfl)|rfl) rfl (c62' b r (min hi (r+3)) (by omega) (by omega)) (by first|(simp (disch:=omega) only[go_sem];rfl)|rfl) (by assumption) (by first|(simp only[go_sem];rfl)|rfl) (by intro x' n;first|(simp (disch:=omega) only[go_sem];rfl)|rfl) ?_;rintro v x' n hu' ⟨r2,rfl,hr2⟩ hn)|refine st_nil ?_|refine st_ret ?_|refine st_tR ?_|refine st_bR ?_)
    simp (disch:=omega) only[AEnd,Try.results63,aresK,fin,go_sem,↓reduceIte,reduceEqDiff,reduceAdd,reduceLeDiff,if_yes,if_no,implies_true,true_and,and_true,List.reverse_cons,List.reverse_nil]
    exact ⟨fun b' _ h2=>if_neg h2,⟨_,rfl,by assumption⟩,⟨_,_,rfl,by omega,by omega,by omega⟩⟩
  · repeat' (first|refine st_op ?_|refine st_det rfl (by simp (disch:=omega) only[go_sem,wr_i64,if_yes,if_no,↓reduceIte,reduceAdd,reduceMul,reduceEqDiff,Nat.reduceBEq,reduceLeDiff];rfl) ?_|refine st_store (by simp (disch:=omega) only[go_sem,wr_i64,if_yes,if_no,↓reduceIte,reduceAdd,reduceMul,reduceEqDiff,Nat.reduceBEq,reduceLeDiff];rfl) ?_|(refine st_drum (by first|(simp (disch:=omega) only[go_sem];rfl)|rfl) rfl (c62' b r hi (by omega) (by omega)) (by first|(simp (disch:=omega) only[go_sem];rfl)|rfl) (by assumption) (by first|(simp only[go_sem];rfl)|rfl) (by intro x' n;first|(simp (disch:=omega) only[go_sem];rfl)|rfl) ?_;rintro v x' n hu' ⟨r2,rfl,hr2⟩ hn)|refine st_nil ?_|refine st_ret ?_)
    simp (disch:=omega) only[AEnd,Try.results63,aresK,fin,go_sem,↓reduceIte,reduceEqDiff,reduceAdd,reduceLeDiff,if_yes,if_no,implies_true,true_and,and_true,List.reverse_cons,List.reverse_nil]
    exact ⟨fun b' _ h2=>if_neg h2,⟨_,rfl,by assumption⟩,⟨_,_,rfl,by omega,by omega,by omega⟩⟩
end Go.Proofs.Ythjbfdfhblloiaa

namespace Go.Proofs.Ythjbfdfhblloiaa
open Go.Av
set_option maxRecDepth 20000
theorem spanE_ok {lo hi m:Int} (h:0≤lo∧lo≤hi∧hi≤m):spanE lo hi m=0:=by
  unfold spanE;rw [if_neg (by omega),if_neg (by omega)]
theorem grpE_ok {t:Tw} {g:Gp} (h:GpOk t g):grpE t g=0:=by
  have h1:=h.stay;have h2:=h.first;have h3:=h.many
  unfold grpE
  rw [spanE_ok h.size,spanE_ok h.at_,if_neg (by simp),if_neg (by simp),if_neg (by omega),if_neg (by omega),if_neg (by omega)]
  refine errN_all fun i hi=>?_
  have a:=h.st i hi
  have b:=h.way (i+1) (by omega)
  unfold pathF
  rw [if_neg (by omega),if_neg (by omega)]
theorem allIn_of {lo hi:Int}:∀ {l:List Int},(∀ i,i < l.length→lo≤elt l i∧elt l i≤hi)→allIn lo hi l=true
  | [],_=>rfl
  | x :: l,h=>by
    have h0:=h 0 (by simp)
    have ih:=allIn_of (l:=l) fun i hi=>by have:=h (i+1) (by simpa using hi);simpa [elt] using this
    have e:elt (x :: l) 0=x:=rfl
    rw [e] at h0
    show (decide (lo≤x∧x≤hi) && allIn lo hi l)=true
    rw [ih,decide_eq_true h0];rfl
theorem chkE_ok {t:Tw} (h:TwOk t):chkE t=0:=by
  have h1:=h.r0;have h2:=h.rn;have h3:=h.sn;have h4:=h.steps;have h5:=h.gn
  have e1:errN (stE t) t.sts.length=0:=errN_all fun i hi=>by
    have a:=h.st i hi
    unfold stE;rw [if_neg (by omega),if_neg (by omega)]
  unfold chkE
  rw [if_neg (by omega),if_neg (by omega),allIn_of h.room,if_neg (by simp),if_neg (by omega),e1,if_neg (by simp),if_neg (by omega),if_neg (by omega)]
  exact errN_all fun i hi=>grpE_ok (h.g i hi)
theorem wayN_congr {t u:Tw} (h:t.sts=u.sts) (p:List Int) (q:Int):∀ i,wayN t p q i=wayN u p q i
  | 0=>rfl
  | i+1=>by show oth (sx t.sts _) (wayN t p q i)=_;rw [wayN_congr h p q i,h];rfl
theorem GpOk.congr {t u:Tw} {g:Gp} (h:GpOk t g) (h1:t.rooms=u.rooms) (h2:t.sts=u.sts):GpOk u g :=
  ⟨h.size,h.at_,h.stay,by rw [← h1];exact h.first,h.many,by rw [← h2];exact h.st,fun i hi=>by rw [← wayN_congr h2];exact h.way i hi⟩
theorem elt_app {l:List Int} {r:Int} {i:Nat} (h:i < l.length):elt (l ++ [r]) i=elt l i:=by
  unfold elt;simp only[List.getD_eq_getElem?_getD];rw [List.getElem?_append_left h]
theorem elt_last {l:List Int} {r:Int}:elt (l ++ [r]) l.length=r:=by
  unfold elt;simp only[List.getD_eq_getElem?_getD];simp
theorem wayN_app {t:Tw} {p:List Int} {q r:Int}:∀ i,i≤p.length→wayN t (p ++ [r]) q i=wayN t p q i
  | 0,_=>rfl
  | i+1,h=>by
    show oth (sx t.sts (elt (p ++ [r]) i).toNat) (wayN t (p ++ [r]) q i)=oth (sx t.sts (elt p i).toNat) (wayN t p q i)
    rw [elt_app (by omega),wayN_app i (by omega)]
structure PtOk (t:Tw) (q:Int) (p:List Int):Prop where
  st:∀ i,i < p.length→0≤elt p i∧elt p i < t.sts.length
  way:∀ i,i≤p.length→0≤wayN t p q i
theorem PtOk.add {t:Tw} {q:Int} {p:List Int} {r:Int} (h:PtOk t q p) (hr:0≤r∧r < t.sts.length) (hw:0≤oth (sx t.sts r.toNat) (wayN t p q p.length)):PtOk t q (p ++ [r])∧wayN t (p ++ [r]) q (p ++ [r]).length=oth (sx t.sts r.toNat) (wayN t p q p.length):=by
  have hl:(p ++ [r]).length=p.length+1:=by simp
  have e:wayN t (p ++ [r]) q (p.length+1)=oth (sx t.sts r.toNat) (wayN t p q p.length):=by
    show oth (sx t.sts (elt (p ++ [r]) p.length).toNat) (wayN t (p ++ [r]) q p.length)=_
    rw [elt_last,wayN_app _ (Nat.le_refl _)]
  refine ⟨⟨fun i hi=>?_,fun i hi=>?_⟩,by rw [hl];exact e⟩
  · by_cases c:i < p.length
    · rw [elt_app c];exact h.st i c
    · obtain rfl:i=p.length:=by omega
      rw [elt_last];exact hr
  · by_cases c:i≤p.length
    · rw [wayN_app i c];exact h.way i c
    · obtain rfl:i=p.length+1:=by omega
      rw [e];exact hw
structure GpGood (t:Tw) (g:Gp):Prop where
  size:0≤g.lo∧g.lo≤g.hi∧g.hi≤90
  at_:0≤g.alo∧g.alo≤g.ahi∧g.ahi≤4
  stay:1≤g.stay∧g.stay≤4
  first:0≤g.first∧g.first < t.rooms.length
  many:g.path.length≤4
  pt:PtOk t g.first g.path
structure TwGood (t:Tw) (SQ ST GR:Int):Prop where
  r0:0 < t.rooms.length
  rn:(t.rooms.length:Int)≤SQ
  room:∀ x ∈ t.rooms,0≤x∧x≤500
  sn:(t.sts.length:Int)≤ST
  st:∀ x ∈ t.sts,0≤x.a∧x.a < t.rooms.length∧0≤x.b∧x.b < t.rooms.length∧x.a ≠ x.b
  steps:0≤t.steps∧t.steps≤10
  gn:(t.gs.length:Int)≤GR
  g:∀ x ∈ t.gs,GpGood t x
theorem TwGood.ok {t:Tw} {SQ ST GR:Int} (h:TwGood t SQ ST GR) (h1:SQ≤12) (h2:ST≤12) (h3:GR≤12):TwOk t:=by
  have a:=h.rn;have b:=h.sn;have c:=h.gn;have d:=h.steps
  refine ⟨h.r0,by omega,fun i hi=>?_,by omega,fun i hi=>h.st _ (sx_mem hi),by omega,by omega,fun i hi=>?_⟩
  · have:=h.room _ (elt_mem hi);omega
  · have k:=h.g _ (gp_mem hi)
    have k1:=k.size;have k2:=k.at_;have k3:=k.stay;have k4:=k.many
    exact ⟨by omega,by omega,by omega,k.first,by omega,k.pt.st,k.pt.way⟩
structure ClOk (t:Tw) (c:List Int) (j:Nat):Prop where
  len:c.length≤j
  bd:∀ i,i < c.length→0≤elt c i∧elt c i < j
  up:∀ i,0 < i→i < c.length→elt c (i - 1) < elt c i
theorem ClOk.mono {t:Tw} {c:List Int} {j k:Nat} (h:ClOk t c j) (hk:j≤k):ClOk t c k:=⟨by have:=h.len;omega,fun i hi=>by have:=h.bd i hi;omega,h.up⟩
theorem ClOk.add {t:Tw} {c:List Int} {j:Nat} (h:ClOk t c j):ClOk t (c ++ [((j:Nat):Int)]) (j+1):=by
  have hl:=h.len
  have hl1:(c ++ [((j:Nat):Int)]).length=c.length+1:=by simp
  refine ⟨by omega,fun i hi=>?_,fun i h0 hi=>?_⟩
  · by_cases q:i < c.length
    · rw [elt_app q];have:=h.bd i q;omega
    · obtain rfl:i=c.length:=by omega
      rw [elt_last];omega
  · by_cases q:i < c.length
    · rw [elt_app q,elt_app (by omega)];exact h.up i h0 q
    · obtain rfl:i=c.length:=by omega
      rw [elt_last,elt_app (by omega)];exact (h.bd _ (by omega)).2
theorem ClOk.cloE {t:Tw} {c:List Int} (h:ClOk t c t.sts.length) (hT:chkE t=0):cloE t c=0:=by
  unfold Go.Proofs.Ythjbfdfhblloiaa.cloE
  rw [if_neg (fun e=>e hT)]
  refine errN_all fun i hi=>?_
  have a:=h.bd i hi
  unfold cloF
  rw [if_neg (by omega),if_neg]
  rintro ⟨h0,h1⟩
  have:=h.up i h0 hi
  omega
end Go.Proofs.Ythjbfdfhblloiaa
