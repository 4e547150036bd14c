/- Contracts of functions that the claim reaches: what each call gives, told in our own logic. Conditions: those of each theorem. -/
import Derived.Test.YtaijkalhkgjakaaDoorG32
import Derived.Test.YtaijkalhkgjakaaDoorBaseD
open Nat (reduceAdd reduceMul reduceEqDiff reduceLeDiff)
open List (length_map)
set_option linter.all false
set_option linter.unusedSimpArgs false
set_option linter.unusedVariables false
namespace Go.Proofs.YtaijkalhkgjakaaDoor
open Go.Av
attribute [local irreducible] thenA blockA awp awpOps awpD awp1
set_option maxHeartbeats 8000000
set_option maxRecDepth 20000
theorem c12 (S:Sp):Pure Tryd.prog 12 [S.av] (fun v=>v=.int .i64 (shopE S)):=by
  intro h
  refine ACalls.forget (ACalls.of tab mixed Tryd.call12 Tryd.func12 rfl (fi:=⟨43,[4],[1],none,[]⟩) rfl rfl (Nat.le_of_ble_eq_true rfl) (by decide) ?_)
  unfold startA
  simp only[go_sem]
  repeat' (first|refine st_seq_reg rfl (by first|(simp only[go_sem];rfl)|rfl) (by first|(simp only[go_sem];rfl)|rfl) ?_|refine st_op ?_|refine st_det rfl (by simp (disch:=omega) only[go_sem,wr_i64,if_yes,if_no,↓reduceIte,reduceAdd,reduceMul,reduceEqDiff,Nat.reduceBEq,reduceLeDiff];rfl) ?_|refine st_gT rfl rfl rfl ?_|refine st_gF rfl rfl rfl ?_|(refine st_gS rfl rfl ?_ ?_ <;> intro hg <;> (try simp only[decide_eq_true_eq,decide_eq_false_iff_not,Bool.not_eq_true',Bool.not_eq_false'] at hg))|refine st_condT rfl ?_|(refine st_condS rfl ?_ ?_ <;> intro hg <;> (try simp only[decide_eq_true_eq,decide_eq_false_iff_not,Bool.not_eq_true',Bool.not_eq_false'] at hg))|refine st_nil ?_|refine st_tN ?_|refine st_seq ?_|refine st_block ?_|refine st_skip ?_|refine st_ret ?_|refine st_tR ?_)
  case' refine_2.refine_2.refine_2 =>
    refine st_loopC (α:=Nat) tab mixed [] [] (by repeat (first|exact trivial|refine ⟨rfl,?_⟩)) [] [] (by repeat (first|exact trivial|refine ⟨rfl,?_⟩)) (fun i=>[(3,.int .i64 i)]) [(1,_),(2,_)] (fun _=>[]) [] (fun i=>i≤S.js.length∧jobsE (S.js.drop i)=jobsE S.js) (fun i=>S.js.length - i) (by decide) 0 ⟨by omega,rfl⟩ (by (try simp only[go_sem]);repeat' (first|exact trivial|refine And.intro ?_ ?_|rfl|(simp (disch:=omega) only[go_sem,if_yes,if_no,↓reduceIte,reduceAdd,reduceMul,reduceEqDiff,Nat.reduceBEq,reduceLeDiff];rfl)|(simp (disch:=omega) only[go_sem,if_yes,if_no,↓reduceIte,reduceAdd,reduceMul,reduceEqDiff,Nat.reduceBEq,reduceLeDiff]))) (by (try simp only[go_sem]);repeat' (first|exact trivial|refine And.intro ?_ ?_|rfl|(simp (disch:=omega) only[go_sem,if_yes,if_no,↓reduceIte,reduceAdd,reduceMul,reduceEqDiff,Nat.reduceBEq,reduceLeDiff];rfl)|(simp (disch:=omega) only[go_sem,if_yes,if_no,↓reduceIte,reduceAdd,reduceMul,reduceEqDiff,Nat.reduceBEq,reduceLeDiff]))) (by first|(simp only[go_sem];rfl)|rfl) (by intro n;simp only[go_sem];rfl) ?_
    rintro i c ⟨hi',hall⟩ hc
    simp only[go_sem]
    repeat' (first|refine st_seq_reg rfl (by first|(simp only[go_sem];rfl)|rfl) (by first|(simp only[go_sem];rfl)|rfl) ?_|refine st_reg rfl (by first|(simp only[go_sem];rfl)|rfl) (by first|(simp only[go_sem];rfl)|rfl) ?_|refine st_op ?_|refine st_det rfl (by simp (disch:=omega) only[go_sem,wr_i64,if_yes,if_no,↓reduceIte,reduceAdd,reduceMul,reduceEqDiff,Nat.reduceBEq,reduceLeDiff];rfl) ?_|refine st_loc rfl (by simp (disch:=omega) only[go_sem,wr_i64,if_yes,if_no,↓reduceIte,reduceAdd,reduceMul,reduceEqDiff,Nat.reduceBEq,reduceLeDiff];rfl) ?_|refine st_store (by simp (disch:=omega) only[go_sem,wr_i64,if_yes,if_no,↓reduceIte,reduceAdd,reduceMul,reduceEqDiff,Nat.reduceBEq,reduceLeDiff];rfl) ?_|(refine st_pureE (by first|(simp (disch:=omega) only[go_sem];rfl)|rfl) rfl (c53 _ _ _) (by first|(simp only[go_sem];rfl)|rfl) (by intro n;first|(simp (disch:=omega) only[go_sem];rfl)|rfl) ?_;intro n hn)|(refine st_condS rfl ?_ ?_ <;> intro hg <;> (try simp only[decide_eq_true_eq,decide_eq_false_iff_not,Bool.not_eq_true',Bool.not_eq_false'] at hg))|refine st_nil ?_|refine st_tN ?_|refine st_seq ?_|refine st_block ?_|refine st_skip ?_|refine st_exit ?_|refine st_ret ?_|refine st_tE ?_|refine st_tR ?_|refine st_bN ?_|refine st_bR ?_|refine st_bH ?_)
    · simp (disch:=omega) only[AEnd,Tryd.results12,aresK,fin,go_sem,↓reduceIte,reduceEqDiff,reduceAdd,reduceLeDiff,if_yes,if_no,implies_true,true_and,and_true,List.reverse_cons,List.reverse_nil]
      rw [shop_in (by omega) (by omega) (by omega),jobs_f (by omega) hall (by omega)]
    · simp (disch:=omega) only[AEnd,Tryd.results12,aresK,fin,go_sem,↓reduceIte,reduceEqDiff,reduceAdd,reduceLeDiff,if_yes,if_no,implies_true,true_and,and_true,List.reverse_cons,List.reverse_nil]
      rw [shop_in (by omega) (by omega) (by omega),jobs_s (by omega) hall (by omega) (by omega)]
    · simp (disch:=omega) only[AEnd,Tryd.results12,aresK,fin,go_sem,↓reduceIte,reduceEqDiff,reduceAdd,reduceLeDiff,if_yes,if_no,implies_true,true_and,and_true,List.reverse_cons,List.reverse_nil]
      rw [shop_in (by omega) (by omega) (by omega),jobs_d (by omega) hall (by omega) (by omega) (by omega)]
    · refine ⟨i+1,⟨by omega,jobs_ok (by omega) hall (by omega) (by omega) (by omega)⟩,by omega,(by repeat' (first|exact trivial|refine And.intro ?_ ?_|rfl|(simp (disch:=omega) only[go_sem,if_yes,if_no,↓reduceIte,reduceAdd,reduceMul,reduceEqDiff,Nat.reduceBEq,reduceLeDiff];rfl)|(simp (disch:=omega) only[go_sem,if_yes,if_no,↓reduceIte,reduceAdd,reduceMul,reduceEqDiff,Nat.reduceBEq,reduceLeDiff]))),(by repeat' (first|exact trivial|refine And.intro ?_ ?_|rfl|(simp (disch:=omega) only[go_sem,if_yes,if_no,↓reduceIte,reduceAdd,reduceMul,reduceEqDiff,Nat.reduceBEq,reduceLeDiff];rfl)|(simp (disch:=omega) only[go_sem,if_yes,if_no,↓reduceIte,reduceAdd,reduceMul,reduceEqDiff,Nat.reduceBEq,reduceLeDiff]))),rfl,(by first|exact HOld.of _ (by omega)|exact HOld.put _ _ _ (by omega))⟩
    · simp (disch:=omega) only[AEnd,Tryd.results12,aresK,fin,go_sem,↓reduceIte,reduceEqDiff,reduceAdd,reduceLeDiff,if_yes,if_no,implies_true,true_and,and_true,List.reverse_cons,List.reverse_nil]
      rw [List.drop_eq_nil_of_le (by omega),jobsE] at hall
      rw [shop_in (by omega) (by omega) (by omega),← hall]
  all_goals
    simp (disch:=omega) only[AEnd,Tryd.results12,aresK,fin,go_sem,↓reduceIte,reduceEqDiff,reduceAdd,reduceLeDiff,if_yes,if_no,implies_true,true_and,and_true,List.reverse_cons,List.reverse_nil]
    first
    | rw [shop_0 (by omega)]
    | rw [shop_4 (by omega) (by omega)]
    | rw [shop_7 (by omega) (by omega) (by omega)]
theorem c63 (S:Sp) (hS:S.Ok) (p:List Sf) (hpl:p.length=S.js.length) (hd:∀ i,i < p.length→-100000≤(pAt p i).d∧(pAt p i).d≤100000):Pure Tryd.prog 63 [S.av,.lst 2 (p.map Sf.row)] (fun v=>v=.int .i64 (takesP S p)):=by
  intro h
  have h7:=hS.n7
  refine ACalls.forget (ACalls.of tab mixed Tryd.call63 Tryd.func63 rfl (fi:=⟨20,[],[2],none,[]⟩) rfl rfl (Nat.le_of_ble_eq_true rfl) (by decide) ?_)
  unfold startA
  try simp only[go_sem]
  repeat' (first|refine st_seq_reg rfl (by first|(simp only[go_sem,length_map];rfl)|rfl) (by first|(simp only[go_sem,length_map];rfl)|rfl) ?_|refine st_op ?_|refine st_det rfl (by simp (disch:=omega) only[go_sem,wr_i64,if_yes,if_no,↓reduceIte,reduceAdd,reduceMul,reduceEqDiff,Nat.reduceBEq,reduceLeDiff,length_map];rfl) ?_|refine st_nil ?_|refine st_seq ?_|refine st_block ?_)
  refine st_loopC (α:=Nat) tab mixed [] [] (by repeat (first|exact trivial|refine ⟨rfl,?_⟩)) [] [] (by repeat (first|exact trivial|refine ⟨rfl,?_⟩)) (fun i=>[(6,.int .i64 (i:Nat)),(5,.int .i64 (takesTo S.js p i))]) [(1,_),(2,_),(4,_)] (fun _=>[]) [] (fun i=>i≤p.length) (fun i=>p.length - i) (by decide) 0 (Nat.zero_le _) (by (try simp only[go_sem]);repeat' (first|exact trivial|refine And.intro ?_ ?_|rfl|(simp (disch:=omega) only[go_sem,if_yes,if_no,↓reduceIte,reduceAdd,reduceMul,reduceEqDiff,Nat.reduceBEq,reduceLeDiff];rfl)|(simp (disch:=omega) only[go_sem,if_yes,if_no,↓reduceIte,reduceAdd,reduceMul,reduceEqDiff,Nat.reduceBEq,reduceLeDiff]))) (by (try simp only[go_sem]);repeat' (first|exact trivial|refine And.intro ?_ ?_|rfl|(simp (disch:=omega) only[go_sem,if_yes,if_no,↓reduceIte,reduceAdd,reduceMul,reduceEqDiff,Nat.reduceBEq,reduceLeDiff];rfl)|(simp (disch:=omega) only[go_sem,if_yes,if_no,↓reduceIte,reduceAdd,reduceMul,reduceEqDiff,Nat.reduceBEq,reduceLeDiff]))) (by first|(simp only[go_sem];rfl)|rfl) (by intro n;simp only[go_sem];rfl) ?_
  rintro i c hi hc2
  simp only[go_sem]
  by_cases hil:i < p.length
  · have hji:=hS.j (show i < S.js.length by omega)
    unfold Jb.Ok at hji
    have eji:S.j i=jOf S.js i:=rfl
    rw [eji] at hji
    have hdi:=hd i hil
    repeat' (first|refine st_seq_reg rfl (by first|(simp only[go_sem,length_map];rfl)|rfl) (by first|(simp only[go_sem,length_map];rfl)|rfl) ?_|refine st_reg rfl (by first|(simp only[go_sem,length_map];rfl)|rfl) (by first|(simp only[go_sem,length_map];rfl)|rfl) ?_|refine st_op ?_|refine st_det rfl (by simp (disch:=omega) only[go_sem,wr_i64,if_yes,if_no,↓reduceIte,reduceAdd,reduceMul,reduceEqDiff,Nat.reduceBEq,reduceLeDiff,length_map];rfl) ?_|(refine st_pureE (by first|(simp (disch:=omega) only[go_sem,length_map];rfl)|rfl) rfl (c104 S p i (by omega) (by omega) h7 (by omega) (by omega)) (by first|(simp only[go_sem,length_map];rfl)|rfl) (by intro n;first|(simp (disch:=omega) only[go_sem];rfl)|rfl) ?_;intro n hn)|(refine st_condS rfl ?_ ?_ <;> intro hg <;> (try simp only[decide_eq_true_eq,decide_eq_false_iff_not,Bool.not_eq_true',Bool.not_eq_false'] at hg))|refine st_nil ?_|refine st_tN ?_|refine st_seq ?_|refine st_block ?_|refine st_skip ?_|refine st_exit ?_|refine st_ret ?_|refine st_tE ?_|refine st_bN ?_|refine st_bH ?_)
    all_goals try (exfalso;omega)
    refine ⟨i+1,(by omega),by omega,(by repeat' (first|exact trivial|refine And.intro ?_ ?_|rfl|(simp (disch:=omega) only[go_sem,if_yes,if_no,↓reduceIte,reduceAdd,reduceMul,reduceEqDiff,Nat.reduceBEq,reduceLeDiff];rfl)|(simp (disch:=omega) only[go_sem,if_yes,if_no,↓reduceIte,reduceAdd,reduceMul,reduceEqDiff,Nat.reduceBEq,reduceLeDiff]))),(by repeat' (first|exact trivial|refine And.intro ?_ ?_|rfl|(simp (disch:=omega) only[go_sem,if_yes,if_no,↓reduceIte,reduceAdd,reduceMul,reduceEqDiff,Nat.reduceBEq,reduceLeDiff];rfl)|(simp (disch:=omega) only[go_sem,if_yes,if_no,↓reduceIte,reduceAdd,reduceMul,reduceEqDiff,Nat.reduceBEq,reduceLeDiff]))),rfl,(by first|exact HOld.of _ (by omega)|exact HOld.put _ _ _ (by omega))⟩
  · have ei:i=p.length:=by omega
    subst ei
    repeat' (first|refine st_seq_reg rfl (by first|(simp only[go_sem,length_map];rfl)|rfl) (by first|(simp only[go_sem,length_map];rfl)|rfl) ?_|refine st_reg rfl (by first|(simp only[go_sem,length_map];rfl)|rfl) (by first|(simp only[go_sem,length_map];rfl)|rfl) ?_|refine st_op ?_|refine st_det rfl (by simp (disch:=omega) only[go_sem,wr_i64,if_yes,if_no,↓reduceIte,reduceAdd,reduceMul,reduceEqDiff,Nat.reduceBEq,reduceLeDiff,length_map];rfl) ?_|(refine st_condS rfl ?_ ?_ <;> intro hg <;> (try simp only[decide_eq_true_eq,decide_eq_false_iff_not,Bool.not_eq_true',Bool.not_eq_false'] at hg))|refine st_nil ?_|refine st_tN ?_|refine st_seq ?_|refine st_block ?_|refine st_skip ?_|refine st_exit ?_|refine st_ret ?_|refine st_tE ?_|refine st_bH ?_)
    all_goals try (exfalso;omega)
    simp (disch:=omega) only[AEnd,Tryd.results63,aresK,fin,go_sem,↓reduceIte,reduceEqDiff,reduceAdd,reduceLeDiff,if_yes,if_no,implies_true,true_and,and_true,List.reverse_cons,List.reverse_nil]
    unfold takesP;rw [hpl]
theorem lex_at:∀ (l k:List Int) (i:Nat),(∀ j,j < i→l.getD j 0=k.getD j 0)→i < l.length→i < k.length→l.getD i 0 ≠ k.getD i 0→lexLt l k=decide (l.getD i 0 < k.getD i 0)
  | [],_,_,_,h,_,_=>by simp at h
  | _ :: _,[],_,_,_,h,_=>by simp at h
  | a :: l,b :: k,0,_,_,_,h=>by
    simp only[List.getD_cons_zero] at h ⊢
    simp only[lexLt]
    rw [if_neg h]
  | a :: l,b :: k,i+1,h0,h1,h2,h=>by
    have e:a=b:=h0 0 (by omega)
    simp only[List.getD_cons_succ] at h ⊢
    simp only[lexLt]
    rw [if_pos e]
    exact lex_at l k i (fun j hj=>by simpa using h0 (j+1) (by omega)) (by simpa using h1) (by simpa using h2) h
theorem wsP_getD (l:List Sf) (i:Nat):(wsP l).getD i 0=(pAt l i).w:=by
  simp only[wsP,pAt,List.getD_eq_getElem?_getD,List.getElem?_map]
  cases l[i]? <;> rfl
theorem ints_ext {l k:List Int} (hl:l.length=k.length) (h:∀ i,i < l.length→l.getD i 0=k.getD i 0):l=k:=by
  apply List.ext_getElem?
  intro i
  by_cases hi:i < l.length
  · have:=h i hi
    rw [List.getD_eq_getElem?_getD,List.getD_eq_getElem?_getD,List.getElem?_eq_getElem hi,List.getElem?_eq_getElem (by omega:i < k.length)] at this
    rw [List.getElem?_eq_getElem hi,List.getElem?_eq_getElem (by omega:i < k.length)]
    simpa using this
  · rw [List.getElem?_eq_none (by omega),List.getElem?_eq_none (by omega)]
theorem bef_d {p q:List Sf} {i:Nat} (hl:p.length=q.length) (hi:i < p.length) (h:∀ j,j < i→(pAt p j).d=(pAt q j).d) (hne:(pAt p i).d ≠ (pAt q i).d):bef p q=decide ((pAt p i).d < (pAt q i).d):=by
  unfold bef
  rw [if_neg (fun e=>hne (by rw [← dsP_getD,← dsP_getD,e])),lex_at _ _ i (fun j hj=>by rw [dsP_getD,dsP_getD];exact h j hj) (by simpa [dsP] using hi) (by simp [dsP];omega) (by rw [dsP_getD,dsP_getD];exact hne),dsP_getD,dsP_getD]
theorem ds_eq {p q:List Sf} (hl:p.length=q.length) (h:∀ j,j < p.length→(pAt p j).d=(pAt q j).d):dsP p=dsP q:=ints_ext (by simpa [dsP] using hl) fun i hi=>by rw [dsP_getD,dsP_getD];exact h i (by simpa [dsP] using hi)
theorem bef_w {p q:List Sf} {i:Nat} (hl:p.length=q.length) (hd:∀ j,j < p.length→(pAt p j).d=(pAt q j).d) (hi:i < p.length) (h:∀ j,j < i→(pAt p j).w=(pAt q j).w) (hne:(pAt p i).w ≠ (pAt q i).w):bef p q=decide ((pAt p i).w < (pAt q i).w):=by
  unfold bef
  rw [if_pos (ds_eq hl hd),lex_at _ _ i (fun j hj=>by rw [wsP_getD,wsP_getD];exact h j hj) (by simpa [wsP] using hi) (by simp [wsP];omega) (by rw [wsP_getD,wsP_getD];exact hne),wsP_getD,wsP_getD]
theorem bef_same {p q:List Sf} (hl:p.length=q.length) (hd:∀ j,j < p.length→(pAt p j).d=(pAt q j).d) (h:∀ j,j < p.length→(pAt p j).w=(pAt q j).w):bef p q=false:=by
  unfold bef
  have e:wsP p=wsP q:=ints_ext (by simpa [wsP] using hl) fun i hi=>by rw [wsP_getD,wsP_getD];exact h i (by simpa [wsP] using hi)
  rw [if_pos (ds_eq hl hd),e,lex_irrefl]
theorem c94 (p q:List Sf) (hl:p.length=q.length) (hp:(p.length:Int) < 1000000):Pure Tryd.prog 94 [.lst 2 (p.map Sf.row),.lst 2 (q.map Sf.row)] (fun v=>v=.bool (bef p q)):=by
  intro h
  refine ACalls.forget (ACalls.of tab mixed Tryd.call94 Tryd.func94 rfl (fi:=⟨63,[],[],none,[(4,[0,0,3,7,15,0,0,96,224,480,1023],[(0,false),(1,false),(2,false),(3,false),(4,true),(5,false),(6,false),(7,false),(8,false),(9,true),(10,false)]),(5,[0,0,3,7,15,0,0,96,224,480,1023,2047],[(0,false),(1,false),(2,false),(3,false),(4,true),(5,false),(6,false),(7,false),(8,false),(9,true),(10,false),(11,false)]),(9,[0,0,3,7,15,0,0,96,224,480,1023],[(0,false),(1,false),(2,false),(3,false),(4,true),(5,false),(6,false),(7,false),(8,false),(9,true),(10,false)]),(10,[0,0,3,7,15,0,0,96,224,480,1023,2047],[(0,false),(1,false),(2,false),(3,false),(4,true),(5,false),(6,false),(7,false),(8,false),(9,true),(10,false),(11,false)])]⟩) rfl rfl (Nat.le_of_ble_eq_true rfl) (by decide) ?_)
  unfold startA
  try simp only[go_sem]
  repeat' (first|refine st_seq_reg rfl (by first|(simp only[go_sem,length_map];rfl)|rfl) (by first|(simp only[go_sem,length_map];rfl)|rfl) ?_|refine st_op ?_|refine st_det rfl (by simp (disch:=omega) only[go_sem,wr_i64,if_yes,if_no,↓reduceIte,reduceAdd,reduceMul,reduceEqDiff,Nat.reduceBEq,reduceLeDiff,length_map];rfl) ?_|refine st_nil ?_|refine st_seq ?_|refine st_block ?_)
  refine st_loopC (α:=Nat) tab mixed [] [] (by repeat (first|exact trivial|refine ⟨rfl,?_⟩)) [] [] (by repeat (first|exact trivial|refine ⟨rfl,?_⟩)) (fun i=>[(5,.int .i64 (i:Nat))]) [(0,_),(1,_),(4,_)] (fun _=>[]) [] (fun i=>i≤p.length∧∀ j,j < i→(pAt p j).d=(pAt q j).d) (fun i=>p.length - i) (by decide) 0 ⟨Nat.zero_le _,fun k hk=>absurd hk (Nat.not_lt_zero k)⟩ (by (try simp only[go_sem]);repeat' (first|exact trivial|refine And.intro ?_ ?_|rfl|(simp (disch:=omega) only[go_sem,if_yes,if_no,↓reduceIte,reduceAdd,reduceMul,reduceEqDiff,Nat.reduceBEq,reduceLeDiff];rfl)|(simp (disch:=omega) only[go_sem,if_yes,if_no,↓reduceIte,reduceAdd,reduceMul,reduceEqDiff,Nat.reduceBEq,reduceLeDiff]))) (by (try simp only[go_sem]);repeat' (first|exact trivial|refine And.intro ?_ ?_|rfl|(simp (disch:=omega) only[go_sem,if_yes,if_no,↓reduceIte,reduceAdd,reduceMul,reduceEqDiff,Nat.reduceBEq,reduceLeDiff];rfl)|(simp (disch:=omega) only[go_sem,if_yes,if_no,↓reduceIte,reduceAdd,reduceMul,reduceEqDiff,Nat.reduceBEq,reduceLeDiff]))) (by first|(simp only[go_sem];rfl)|rfl) (by intro n;simp only[go_sem];rfl) ?_
  rintro i c ⟨hi,hall⟩ hc2
  simp only[go_sem]
  by_cases hil:i < p.length
  · have hiq:i < q.length:=by omega
    by_cases he:(pAt p i).d=(pAt q i).d
    · repeat' (first|refine st_seq_reg rfl (by first|(simp only[go_sem,length_map];rfl)|rfl) (by first|(simp only[go_sem,length_map];rfl)|rfl) ?_|refine st_reg rfl (by first|(simp only[go_sem,length_map];rfl)|rfl) (by first|(simp only[go_sem,length_map];rfl)|rfl) ?_|refine st_seq_draw rfl (by first|(simp only[go_sem,length_map];rfl)|rfl) (by first|(simp only[go_sem,length_map];rfl)|rfl) ?_|refine st_op ?_|refine st_det rfl (by simp (disch:=omega) only[go_sem,wr_i64,if_yes,if_no,↓reduceIte,reduceAdd,reduceMul,reduceEqDiff,Nat.reduceBEq,reduceLeDiff,length_map];rfl) ?_|refine st_dop rfl ?_|(refine st_condS rfl ?_ ?_ <;> intro hg <;> (try simp only[decide_eq_true_eq,decide_eq_false_iff_not,Bool.not_eq_true',Bool.not_eq_false'] at hg))|refine st_nil ?_|refine st_dnil ?_|refine st_tN ?_|refine st_seq ?_|refine st_block ?_|refine st_skip ?_|refine st_exit ?_|refine st_ret ?_|refine st_tE ?_|refine st_tR ?_|refine st_bN ?_|refine st_bR ?_|refine st_bH ?_)
      all_goals try (exfalso;omega)
      refine ⟨i+1,⟨by omega,stepP hall he⟩,by omega,(by repeat' (first|exact trivial|refine And.intro ?_ ?_|rfl|(simp (disch:=omega) only[go_sem,if_yes,if_no,↓reduceIte,reduceAdd,reduceMul,reduceEqDiff,Nat.reduceBEq,reduceLeDiff];rfl)|(simp (disch:=omega) only[go_sem,if_yes,if_no,↓reduceIte,reduceAdd,reduceMul,reduceEqDiff,Nat.reduceBEq,reduceLeDiff]))),(by repeat' (first|exact trivial|refine And.intro ?_ ?_|rfl|(simp (disch:=omega) only[go_sem,if_yes,if_no,↓reduceIte,reduceAdd,reduceMul,reduceEqDiff,Nat.reduceBEq,reduceLeDiff];rfl)|(simp (disch:=omega) only[go_sem,if_yes,if_no,↓reduceIte,reduceAdd,reduceMul,reduceEqDiff,Nat.reduceBEq,reduceLeDiff]))),rfl,(by first|exact HOld.of _ (by omega)|exact HOld.put _ _ _ (by omega))⟩
    · repeat' (first|refine st_seq_reg rfl (by first|(simp only[go_sem,length_map];rfl)|rfl) (by first|(simp only[go_sem,length_map];rfl)|rfl) ?_|refine st_reg rfl (by first|(simp only[go_sem,length_map];rfl)|rfl) (by first|(simp only[go_sem,length_map];rfl)|rfl) ?_|refine st_seq_draw rfl (by first|(simp only[go_sem,length_map];rfl)|rfl) (by first|(simp only[go_sem,length_map];rfl)|rfl) ?_|refine st_op ?_|refine st_det rfl (by simp (disch:=omega) only[go_sem,wr_i64,if_yes,if_no,↓reduceIte,reduceAdd,reduceMul,reduceEqDiff,Nat.reduceBEq,reduceLeDiff,length_map];rfl) ?_|refine st_dop rfl ?_|(refine st_condS rfl ?_ ?_ <;> intro hg <;> (try simp only[decide_eq_true_eq,decide_eq_false_iff_not,Bool.not_eq_true',Bool.not_eq_false'] at hg))|refine st_nil ?_|refine st_dnil ?_|refine st_tN ?_|refine st_seq ?_|refine st_block ?_|refine st_skip ?_|refine st_exit ?_|refine st_ret ?_|refine st_tE ?_|refine st_tR ?_|refine st_bN ?_|refine st_bR ?_|refine st_bH ?_)
      all_goals try (exfalso;omega)
      simp (disch:=omega) only[AEnd,Tryd.results94,aresK,fin,go_sem,↓reduceIte,reduceEqDiff,reduceAdd,reduceLeDiff,if_yes,if_no,implies_true,true_and,and_true,List.reverse_cons,List.reverse_nil]
      rw [bef_d hl hil hall he]
  · have ei:i=p.length:=by omega
    subst ei
    repeat' (first|refine st_seq_reg rfl (by first|(simp only[go_sem,length_map];rfl)|rfl) (by first|(simp only[go_sem,length_map];rfl)|rfl) ?_|refine st_reg rfl (by first|(simp only[go_sem,length_map];rfl)|rfl) (by first|(simp only[go_sem,length_map];rfl)|rfl) ?_|refine st_seq_draw rfl (by first|(simp only[go_sem,length_map];rfl)|rfl) (by first|(simp only[go_sem,length_map];rfl)|rfl) ?_|refine st_op ?_|refine st_det rfl (by simp (disch:=omega) only[go_sem,wr_i64,if_yes,if_no,↓reduceIte,reduceAdd,reduceMul,reduceEqDiff,Nat.reduceBEq,reduceLeDiff,length_map];rfl) ?_|refine st_dop rfl ?_|(refine st_condS rfl ?_ ?_ <;> intro hg <;> (try simp only[decide_eq_true_eq,decide_eq_false_iff_not,Bool.not_eq_true',Bool.not_eq_false'] at hg))|refine st_nil ?_|refine st_dnil ?_|refine st_tN ?_|refine st_seq ?_|refine st_block ?_|refine st_skip ?_|refine st_exit ?_|refine st_ret ?_|refine st_tE ?_|refine st_tR ?_|refine st_bN ?_|refine st_bR ?_|refine st_bH ?_)
    all_goals try (exfalso;omega)
    refine st_loopC (α:=Nat) tab mixed [] [] (by repeat (first|exact trivial|refine ⟨rfl,?_⟩)) [] [] (by repeat (first|exact trivial|refine ⟨rfl,?_⟩)) (fun i=>[(6,.int .i64 (i:Nat))]) [(0,_),(1,_),(4,_)] (fun _=>[]) [] (fun i=>i≤p.length∧∀ j,j < i→(pAt p j).w=(pAt q j).w) (fun i=>p.length - i) (by decide) 0 ⟨Nat.zero_le _,fun k hk=>absurd hk (Nat.not_lt_zero k)⟩ (by (try simp only[go_sem]);repeat' (first|exact trivial|refine And.intro ?_ ?_|rfl|(simp (disch:=omega) only[go_sem,if_yes,if_no,↓reduceIte,reduceAdd,reduceMul,reduceEqDiff,Nat.reduceBEq,reduceLeDiff];rfl)|(simp (disch:=omega) only[go_sem,if_yes,if_no,↓reduceIte,reduceAdd,reduceMul,reduceEqDiff,Nat.reduceBEq,reduceLeDiff]))) (by (try simp only[go_sem]);repeat' (first|exact trivial|refine And.intro ?_ ?_|rfl|(simp (disch:=omega) only[go_sem,if_yes,if_no,↓reduceIte,reduceAdd,reduceMul,reduceEqDiff,Nat.reduceBEq,reduceLeDiff];rfl)|(simp (disch:=omega) only[go_sem,if_yes,if_no,↓reduceIte,reduceAdd,reduceMul,reduceEqDiff,Nat.reduceBEq,reduceLeDiff]))) (by first|(simp only[go_sem];rfl)|rfl) (by intro n;simp only[go_sem];rfl) ?_
    rintro i c ⟨hi,hallw⟩ hc2
    simp only[go_sem]
    by_cases hil:i < p.length
    · have hiq:i < q.length:=by omega
      by_cases he:(pAt p i).w=(pAt q i).w
      · repeat' (first|refine st_seq_reg rfl (by first|(simp only[go_sem,length_map];rfl)|rfl) (by first|(simp only[go_sem,length_map];rfl)|rfl) ?_|refine st_reg rfl (by first|(simp only[go_sem,length_map];rfl)|rfl) (by first|(simp only[go_sem,length_map];rfl)|rfl) ?_|refine st_seq_draw rfl (by first|(simp only[go_sem,length_map];rfl)|rfl) (by first|(simp only[go_sem,length_map];rfl)|rfl) ?_|refine st_op ?_|refine st_det rfl (by simp (disch:=omega) only[go_sem,wr_i64,if_yes,if_no,↓reduceIte,reduceAdd,reduceMul,reduceEqDiff,Nat.reduceBEq,reduceLeDiff,length_map];rfl) ?_|refine st_dop rfl ?_|(refine st_condS rfl ?_ ?_ <;> intro hg <;> (try simp only[decide_eq_true_eq,decide_eq_false_iff_not,Bool.not_eq_true',Bool.not_eq_false'] at hg))|refine st_nil ?_|refine st_dnil ?_|refine st_tN ?_|refine st_seq ?_|refine st_block ?_|refine st_skip ?_|refine st_exit ?_|refine st_ret ?_|refine st_tE ?_|refine st_tR ?_|refine st_bN ?_|refine st_bR ?_|refine st_bH ?_)
        all_goals try (exfalso;omega)
        refine ⟨i+1,⟨by omega,stepP hallw he⟩,by omega,(by repeat' (first|exact trivial|refine And.intro ?_ ?_|rfl|(simp (disch:=omega) only[go_sem,if_yes,if_no,↓reduceIte,reduceAdd,reduceMul,reduceEqDiff,Nat.reduceBEq,reduceLeDiff];rfl)|(simp (disch:=omega) only[go_sem,if_yes,if_no,↓reduceIte,reduceAdd,reduceMul,reduceEqDiff,Nat.reduceBEq,reduceLeDiff]))),(by repeat' (first|exact trivial|refine And.intro ?_ ?_|rfl|(simp (disch:=omega) only[go_sem,if_yes,if_no,↓reduceIte,reduceAdd,reduceMul,reduceEqDiff,Nat.reduceBEq,reduceLeDiff];rfl)|(simp (disch:=omega) only[go_sem,if_yes,if_no,↓reduceIte,reduceAdd,reduceMul,reduceEqDiff,Nat.reduceBEq,reduceLeDiff]))),rfl,(by first|exact HOld.of _ (by omega)|exact HOld.put _ _ _ (by omega))⟩
      · repeat' (first|refine st_seq_reg rfl (by first|(simp only[go_sem,length_map];rfl)|rfl) (by first|(simp only[go_sem,length_map];rfl)|rfl) ?_|refine st_reg rfl (by first|(simp only[go_sem,length_map];rfl)|rfl) (by first|(simp only[go_sem,length_map];rfl)|rfl) ?_|refine st_seq_draw rfl (by first|(simp only[go_sem,length_map];rfl)|rfl) (by first|(simp only[go_sem,length_map];rfl)|rfl) ?_|refine st_op ?_|refine st_det rfl (by simp (disch:=omega) only[go_sem,wr_i64,if_yes,if_no,↓reduceIte,reduceAdd,reduceMul,reduceEqDiff,Nat.reduceBEq,reduceLeDiff,length_map];rfl) ?_|refine st_dop rfl ?_|(refine st_condS rfl ?_ ?_ <;> intro hg <;> (try simp only[decide_eq_true_eq,decide_eq_false_iff_not,Bool.not_eq_true',Bool.not_eq_false'] at hg))|refine st_nil ?_|refine st_dnil ?_|refine st_tN ?_|refine st_seq ?_|refine st_block ?_|refine st_skip ?_|refine st_exit ?_|refine st_ret ?_|refine st_tE ?_|refine st_tR ?_|refine st_bN ?_|refine st_bR ?_|refine st_bH ?_)
        all_goals try (exfalso;omega)
        simp (disch:=omega) only[AEnd,Tryd.results94,aresK,fin,go_sem,↓reduceIte,reduceEqDiff,reduceAdd,reduceLeDiff,if_yes,if_no,implies_true,true_and,and_true,List.reverse_cons,List.reverse_nil]
        rw [bef_w hl hall hil hallw he]
    · have ei:i=p.length:=by omega
      subst ei
      repeat' (first|refine st_seq_reg rfl (by first|(simp only[go_sem,length_map];rfl)|rfl) (by first|(simp only[go_sem,length_map];rfl)|rfl) ?_|refine st_reg rfl (by first|(simp only[go_sem,length_map];rfl)|rfl) (by first|(simp only[go_sem,length_map];rfl)|rfl) ?_|refine st_seq_draw rfl (by first|(simp only[go_sem,length_map];rfl)|rfl) (by first|(simp only[go_sem,length_map];rfl)|rfl) ?_|refine st_op ?_|refine st_det rfl (by simp (disch:=omega) only[go_sem,wr_i64,if_yes,if_no,↓reduceIte,reduceAdd,reduceMul,reduceEqDiff,Nat.reduceBEq,reduceLeDiff,length_map];rfl) ?_|refine st_dop rfl ?_|(refine st_condS rfl ?_ ?_ <;> intro hg <;> (try simp only[decide_eq_true_eq,decide_eq_false_iff_not,Bool.not_eq_true',Bool.not_eq_false'] at hg))|refine st_nil ?_|refine st_dnil ?_|refine st_tN ?_|refine st_seq ?_|refine st_block ?_|refine st_skip ?_|refine st_exit ?_|refine st_ret ?_|refine st_tE ?_|refine st_tR ?_|refine st_bN ?_|refine st_bR ?_|refine st_bH ?_)
      all_goals try (exfalso;omega)
      simp (disch:=omega) only[AEnd,Tryd.results94,aresK,fin,go_sem,↓reduceIte,reduceEqDiff,reduceAdd,reduceLeDiff,if_yes,if_no,implies_true,true_and,and_true,List.reverse_cons,List.reverse_nil]
      rw [bef_same hl hall hallw]
theorem jobs_zero:∀ {l:List Jb},(∀ j ∈ l,j.Ok)→jobsE l=0
  | [],_=>rfl
  | x :: l,h=>by
    have hx:=h x (by simp)
    unfold Jb.Ok at hx
    have e:jobE x=0:=by unfold jobE;rw [if_neg (by omega),if_neg (by omega),if_neg (by omega)]
    simp only[jobsE]
    rw [if_neg (by omega)]
    exact jobs_zero fun j hj=>h j (by simp [hj])
theorem shop_zero {S:Sp} (hS:S.Ok):shopE S=0:=by
  have h1:=hS.m0
  have h2:=hS.m4
  have h3:=hS.n7
  rw [shop_in (by omega) (by omega) (by omega)]
  exact jobs_zero hS.job
theorem ShGood.ok {S:Sp} {W J D:Int} (h:ShGood S W J D) (hW:W≤4) (hJ:J≤7) (hD:D≤30):S.Ok :=
  ⟨h.w.1,by have:=h.w.2;omega,by have:=h.j;omega,fun j hj=>by have:=h.job j hj;unfold Jb.Ok;omega⟩
theorem bestV_yes {S:Sp} (hS:S.Ok) (h:lackD S=false):bestV S=.tup [.lst 2 ((bestD S).1.map Sf.row),.int .i64 (bestD S).2,.int .i64 0]:=by
  have e:bndV S=(boundD S,0):=by unfold bndV;rw [if_neg (fun q=>q (shop_zero hS)),if_neg (by rw [h];decide)]
  unfold bestV;rw [e];rfl
theorem sJb (l:List Jb):Still (.lst 3 (l.map Jb.row)):=Still.lst fun r hr x hx=>by
  obtain ⟨y,_,rfl⟩:=List.mem_map.1 hr
  simp only[Jb.row,List.mem_cons,List.not_mem_nil,or_false] at hx
  rcases hx with rfl|rfl|rfl <;> exact fun _ _=>rfl
end Go.Proofs.YtaijkalhkgjakaaDoor
