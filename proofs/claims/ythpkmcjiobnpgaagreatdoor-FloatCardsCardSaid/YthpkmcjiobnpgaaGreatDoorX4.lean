/- Contracts of functions that the claim reaches: what each call gives, told in our own logic. Conditions: those of each theorem. -/
import Derived.Test.YthpkmcjiobnpgaaGreatDoorX2
open Nat (reduceAdd reduceMul reduceEqDiff reduceLeDiff)
set_option linter.all false
set_option linter.unusedSimpArgs false
set_option linter.unusedVariables false
namespace Go.Proofs.YthpkmcjiobnpgaaGreatDoor
open Go.Av Go.Txt Go.Lib
attribute [local irreducible] thenA blockA awp awpOps awpD awp1
set_option maxHeartbeats 8000000
set_option maxRecDepth 20000
def nmV (k:Nat) (word:List UInt8) (many:Nat) (s:List UInt8):AV:=match rowP k s with
  | some (w,l)=>if w=word∧l.length=many then .tup [.lst 1 (l.map iv),.bool true] else .tup [.lst 1 [],.bool false]
  | none=>.tup [.lst 1 [],.bool false]
structure PaS where
  i:Nat
  v:AV
  ns:List Int
  g:AH
theorem strs_getD {l:List (List UInt8)} {i:Nat} (h:i < l.length):(strs l).getD i []=[.str (l.getD i [])]:=by
  unfold strs
  rw [List.getD_eq_getElem?_getD,List.getElem?_map,List.getElem?_eq_getElem h,List.getD_eq_getElem?_getD,List.getElem?_eq_getElem h];rfl
theorem strs_len (l:List (List UInt8)):(strs l).length=l.length:=List.length_map _
theorem str_mem {l:List (List UInt8)} {i:Nat} (h:i < l.length):l.getD i [] ∈ l:=by
  rw [List.getD_eq_getElem?_getD,List.getElem?_eq_getElem h];exact List.getElem_mem h
theorem take_str {l:List (List UInt8)} {i:Nat} (h:i < l.length):l.take (i+1)=l.take i ++ [l.getD i []]:=by
  rw [List.take_add_one,List.getElem?_eq_getElem h,List.getD_eq_getElem?_getD,List.getElem?_eq_getElem h];rfl
theorem c37 (s word:List UInt8) (many:Nat) (hs:s.length≤1000000) (hmany:many≤1000):PureG gT Tryz.prog 37 [.str s,.str word,.int .i64 (many:Nat)] (fun v=>v=nmV 7 word many s):=by
  refine PureG.give Tryz.call37 fun h hgl hold=>?_
  obtain ⟨w,ws,hw⟩:∃ w ws,splitL 32 s=w :: ws:=by
    cases e:splitL 32 s with
    | nil=>exact absurd e (splitL_ne _ _)
    | cons w ws=>exact ⟨w,ws,rfl⟩
  have hlen:=splitL_len 32 s
  rw [hw,List.length_cons] at hlen
  have hsub:∀ x ∈ ws,x.length≤1000000:=fun x hx=>Nat.le_trans (splitL_sub (by rw [hw];exact List.mem_cons_of_mem _ hx)) hs
  have k36:=c36 s 32 (by omega)
  rw [hw] at k36
  have eD:List.take (ws.length+1 - Int.toNat 1) (List.drop (Int.toNat 1) (strs (w :: ws)))=strs ws:=by
    show List.take (ws.length+1 - 1) (strs ws)=strs ws
    rw [Nat.add_sub_cancel]
    exact List.take_of_length_le (by rw [strs_len];exact Nat.le_refl _)
  have hg0:(strs (w :: ws)).getD (Int.toNat 0) []=[.str w]:=rfl
  have hno:nmV 7 word many s=.tup [.lst 1 [],.bool false]→∃ v',VLe (.tup [.nils,.bool false]) v'∧v'=nmV 7 word many s:=fun q =>
    ⟨_,VLe.tup (VLes.mid (pre:=[]) (post:=[.bool false]) (VLe.nils 1)),q.symm⟩
  have hrow:rowP 7 s=(numsP 7 ws).map fun l=>(w,l):=by unfold rowP;rw [hw]
  by_cases hword:w=word
  case neg =>
    have f1:(w=word)=False:=eq_false hword
    have e:nmV 7 word many s=.tup [.lst 1 [],.bool false]:=by
      unfold nmV;rw [hrow]
      cases numsP 7 ws with
      | none=>rfl
      | some l=>exact if_neg (fun q=>hword q.1)
    refine ACalls.of tab mixed Tryz.call37 Tryz.func37 rfl (fi:=⟨63,[],[59],none,[]⟩) rfl rfl (Nat.le_of_ble_eq_true rfl) (by decide) ?_
    unfold startA
    try simp only[go_sem]
    repeat' (first|refine st_seq_reg rfl (by first|(simp only[go_sem,strs_len,List.length_cons,hg0,f1];rfl)|rfl) (by first|(simp only[go_sem,strs_len,List.length_cons,hg0,f1];rfl)|rfl) ?_|refine st_reg rfl (by first|(simp only[go_sem,strs_len,List.length_cons,hg0,f1];rfl)|rfl) (by first|(simp only[go_sem,strs_len,List.length_cons,hg0,f1];rfl)|rfl) ?_|refine st_op ?_|refine st_det rfl (by simp (disch:=omega) only[go_sem,wr_i64,if_yes,if_no,↓reduceIte,reduceAdd,reduceMul,reduceEqDiff,Nat.reduceBEq,reduceLeDiff,strs_len,List.length_cons,hg0,f1];rfl) ?_|refine st_heap rfl (by simp (disch:=omega) only[go_sem,wr_i64,if_yes,if_no,↓reduceIte,reduceAdd,reduceMul,reduceEqDiff,Nat.reduceBEq,reduceLeDiff,strs_len,List.length_cons,hg0,f1];rfl) ?_|refine st_append (by simp (disch:=omega) only[go_sem,wr_i64,if_yes,if_no,↓reduceIte,reduceAdd,reduceMul,reduceEqDiff,Nat.reduceBEq,reduceLeDiff,strs_len,List.length_cons,hg0,f1];rfl) ?_|(refine st_pureGE (by first|(simp (disch:=omega) only[go_sem,strs_len,List.length_cons,hg0,f1];rfl)|rfl) rfl (k36) (by exact hgl) (by first|(simp only[go_sem,strs_len,List.length_cons,hg0,f1];rfl)|rfl) (by intro n;first|(simp (disch:=omega) only[go_sem];rfl)|rfl) ?_;intro n hn)|refine st_gT rfl rfl rfl ?_|refine st_gF rfl rfl rfl ?_|(refine st_gS rfl rfl ?_ ?_ <;> intro hg <;> (try simp only[decide_eq_true_eq,decide_eq_false_iff_not,Bool.not_eq_true',Bool.not_eq_false'] at hg))|refine st_condT rfl ?_|refine st_condF rfl ?_|(refine st_condS rfl ?_ ?_ <;> intro hg <;> (try simp only[decide_eq_true_eq,decide_eq_false_iff_not,Bool.not_eq_true',Bool.not_eq_false'] at hg))|refine st_nil ?_|refine st_tN ?_|refine st_seq ?_|refine st_block ?_|refine st_skip ?_|refine st_exit ?_|refine st_ret ?_|refine st_tE ?_|refine st_tR ?_|refine st_bN ?_|refine st_bR ?_|refine st_bH ?_|refine st_bM rfl ?_)
    all_goals try (exfalso;omega)
    simp (disch:=omega) only[AEnd,Tryz.results37,aresK,fin,go_sem,↓reduceIte,reduceEqDiff,reduceAdd,reduceLeDiff,if_yes,if_no,implies_true,true_and,and_true,List.reverse_cons,List.reverse_nil]
    exact .inl (hno e)
  have f1:(w=word)=True:=eq_true hword
  by_cases hmn:ws.length=many
  case neg =>
    have e:nmV 7 word many s=.tup [.lst 1 [],.bool false]:=by
      unfold nmV;rw [hrow]
      cases hn:numsP 7 ws with
      | none=>rfl
      | some l=>exact if_neg (fun q=>hmn (by rw [← numsP_len hn];exact q.2))
    refine ACalls.of tab mixed Tryz.call37 Tryz.func37 rfl (fi:=⟨63,[],[59],none,[]⟩) rfl rfl (Nat.le_of_ble_eq_true rfl) (by decide) ?_
    unfold startA
    try simp only[go_sem]
    repeat' (first|refine st_seq_reg rfl (by first|(simp only[go_sem,strs_len,List.length_cons,hg0,f1];rfl)|rfl) (by first|(simp only[go_sem,strs_len,List.length_cons,hg0,f1];rfl)|rfl) ?_|refine st_reg rfl (by first|(simp only[go_sem,strs_len,List.length_cons,hg0,f1];rfl)|rfl) (by first|(simp only[go_sem,strs_len,List.length_cons,hg0,f1];rfl)|rfl) ?_|refine st_op ?_|refine st_det rfl (by simp (disch:=omega) only[go_sem,wr_i64,if_yes,if_no,↓reduceIte,reduceAdd,reduceMul,reduceEqDiff,Nat.reduceBEq,reduceLeDiff,strs_len,List.length_cons,hg0,f1];rfl) ?_|refine st_heap rfl (by simp (disch:=omega) only[go_sem,wr_i64,if_yes,if_no,↓reduceIte,reduceAdd,reduceMul,reduceEqDiff,Nat.reduceBEq,reduceLeDiff,strs_len,List.length_cons,hg0,f1];rfl) ?_|refine st_append (by simp (disch:=omega) only[go_sem,wr_i64,if_yes,if_no,↓reduceIte,reduceAdd,reduceMul,reduceEqDiff,Nat.reduceBEq,reduceLeDiff,strs_len,List.length_cons,hg0,f1];rfl) ?_|(refine st_pureGE (by first|(simp (disch:=omega) only[go_sem,strs_len,List.length_cons,hg0,f1];rfl)|rfl) rfl (k36) (by exact hgl) (by first|(simp only[go_sem,strs_len,List.length_cons,hg0,f1];rfl)|rfl) (by intro n;first|(simp (disch:=omega) only[go_sem];rfl)|rfl) ?_;intro n hn)|refine st_gT rfl rfl rfl ?_|refine st_gF rfl rfl rfl ?_|(refine st_gS rfl rfl ?_ ?_ <;> intro hg <;> (try simp only[decide_eq_true_eq,decide_eq_false_iff_not,Bool.not_eq_true',Bool.not_eq_false'] at hg))|refine st_condT rfl ?_|refine st_condF rfl ?_|(refine st_condS rfl ?_ ?_ <;> intro hg <;> (try simp only[decide_eq_true_eq,decide_eq_false_iff_not,Bool.not_eq_true',Bool.not_eq_false'] at hg))|refine st_nil ?_|refine st_tN ?_|refine st_seq ?_|refine st_block ?_|refine st_skip ?_|refine st_exit ?_|refine st_ret ?_|refine st_tE ?_|refine st_tR ?_|refine st_bN ?_|refine st_bR ?_|refine st_bH ?_|refine st_bM rfl ?_)
    all_goals try (exfalso;omega)
    simp (disch:=omega) only[AEnd,Tryz.results37,aresK,fin,go_sem,↓reduceIte,reduceEqDiff,reduceAdd,reduceLeDiff,if_yes,if_no,implies_true,true_and,and_true,List.reverse_cons,List.reverse_nil]
    exact .inl (hno e)
  subst hmn
  refine ACalls.of tab mixed Tryz.call37 Tryz.func37 rfl (fi:=⟨63,[],[59],none,[]⟩) rfl rfl (Nat.le_of_ble_eq_true rfl) (by decide) ?_
  unfold startA
  try simp only[go_sem]
  repeat' (first|refine st_seq_reg rfl (by first|(simp only[go_sem,strs_len,List.length_cons,hg0,f1];rfl)|rfl) (by first|(simp only[go_sem,strs_len,List.length_cons,hg0,f1];rfl)|rfl) ?_|refine st_reg rfl (by first|(simp only[go_sem,strs_len,List.length_cons,hg0,f1];rfl)|rfl) (by first|(simp only[go_sem,strs_len,List.length_cons,hg0,f1];rfl)|rfl) ?_|refine st_op ?_|refine st_det rfl (by simp (disch:=omega) only[go_sem,wr_i64,if_yes,if_no,↓reduceIte,reduceAdd,reduceMul,reduceEqDiff,Nat.reduceBEq,reduceLeDiff,strs_len,List.length_cons,hg0,f1];rfl) ?_|refine st_heap rfl (by simp (disch:=omega) only[go_sem,wr_i64,if_yes,if_no,↓reduceIte,reduceAdd,reduceMul,reduceEqDiff,Nat.reduceBEq,reduceLeDiff,strs_len,List.length_cons,hg0,f1];rfl) ?_|refine st_append (by simp (disch:=omega) only[go_sem,wr_i64,if_yes,if_no,↓reduceIte,reduceAdd,reduceMul,reduceEqDiff,Nat.reduceBEq,reduceLeDiff,strs_len,List.length_cons,hg0,f1];rfl) ?_|(refine st_pureGE (by first|(simp (disch:=omega) only[go_sem,strs_len,List.length_cons,hg0,f1];rfl)|rfl) rfl (k36) (by exact hgl) (by first|(simp only[go_sem,strs_len,List.length_cons,hg0,f1];rfl)|rfl) (by intro n;first|(simp (disch:=omega) only[go_sem];rfl)|rfl) ?_;intro n hn)|refine st_gT rfl rfl rfl ?_|refine st_gF rfl rfl rfl ?_|(refine st_gS rfl rfl ?_ ?_ <;> intro hg <;> (try simp only[decide_eq_true_eq,decide_eq_false_iff_not,Bool.not_eq_true',Bool.not_eq_false'] at hg))|refine st_condT rfl ?_|refine st_condF rfl ?_|(refine st_condS rfl ?_ ?_ <;> intro hg <;> (try simp only[decide_eq_true_eq,decide_eq_false_iff_not,Bool.not_eq_true',Bool.not_eq_false'] at hg))|refine st_nil ?_|refine st_tN ?_|refine st_seq ?_|refine st_block ?_|refine st_skip ?_|refine st_exit ?_|refine st_ret ?_|refine st_tE ?_|refine st_tR ?_|refine st_bN ?_|refine st_bR ?_|refine st_bH ?_|refine st_bM rfl ?_)
  all_goals try (exfalso;omega)
  simp only[eD,strs_len]
  have hbad:∀ i,i < ws.length→numP 7 (ws.getD i [])=none→numsP 7 ws=none:=by
    intro i hi hn
    have e:ws=ws.take (i+1) ++ ws.drop (i+1):=(List.take_append_drop _ _).symm
    rw [e]
    refine numsP_bad ?_
    rw [take_str hi,numsP_snoc,hn]
    cases numsP 7 (ws.take i) <;> rfl
  have hyes:∀ l,numsP 7 ws=some l→nmV 7 word ws.length s=.tup [.lst 1 (l.map iv),.bool true]:=by
    intro l hl
    unfold nmV;rw [hrow,hl]
    exact if_pos ⟨hword,numsP_len hl⟩
  have hfail0:numsP 7 ws=none→nmV 7 word ws.length s=.tup [.lst 1 [],.bool false]:=by
    intro hl
    unfold nmV;rw [hrow,hl];rfl
  refine st_loopH (α:=PaS) tab mixed [] [] (by repeat (first|exact trivial|refine ⟨rfl,?_⟩)) [] [] (by repeat (first|exact trivial|refine ⟨rfl,?_⟩)) (fun a=>[(31,.int .i64 (a.i:Nat)),(9,a.v)]) [(6,_),(7,_),(8,_),(29,_),(30,_)] (fun _=>[]) [] (fun a=>a.g) (fun a=>a.i≤ws.length∧numsP 7 (ws.take a.i)=some a.ns∧a.ns.length=a.i∧SlA h.clk a.g a.v 1 (a.ns.map iv)∧(∀ b':Bid,b'.1 < h.clk→a.g.at_ b'=h.at_ b')∧a.g.lp=h.lp∧a.g.gl=gT∧h.clk≤a.g.clk) (fun a=>ws.length - a.i) (by decide) ⟨0,.nils,[],_⟩ (by exact ⟨Nat.zero_le _,rfl,rfl,.inl ⟨rfl,rfl⟩,fun _ _=>rfl,rfl,hgl,by (try simp only[go_sem]);omega⟩) (by (try simp only[go_sem]);repeat' (first|exact trivial|refine And.intro ?_ ?_|rfl|(simp (disch:=omega) only[go_sem,if_yes,if_no,↓reduceIte,reduceAdd,reduceMul,reduceEqDiff,Nat.reduceBEq,reduceLeDiff];rfl)|(simp (disch:=omega) only[go_sem,if_yes,if_no,↓reduceIte,reduceAdd,reduceMul,reduceEqDiff,Nat.reduceBEq,reduceLeDiff]))) (by (try simp only[go_sem]);repeat' (first|exact trivial|refine And.intro ?_ ?_|rfl|(simp (disch:=omega) only[go_sem,if_yes,if_no,↓reduceIte,reduceAdd,reduceMul,reduceEqDiff,Nat.reduceBEq,reduceLeDiff];rfl)|(simp (disch:=omega) only[go_sem,if_yes,if_no,↓reduceIte,reduceAdd,reduceMul,reduceEqDiff,Nat.reduceBEq,reduceLeDiff]))) (HOld.refl _) ?_
  rintro ⟨i,v,ns,g⟩ c ⟨hi,hns,hnl,hS,hat,hlp,hgl,hck⟩ hc
  dsimp only at hi hns hnl hS hat hlp hgl hck hc
  simp only[go_sem]
  have hnc:=hS.noL
  by_cases hil:i < ws.length
  case neg =>
    obtain rfl:i=ws.length:=by omega
    rw [List.take_length] at hns
    repeat' (first|refine st_seq_reg rfl (by first|(simp only[go_sem,strs_len,List.length_cons,hnc];rfl)|rfl) (by first|(simp only[go_sem,strs_len,List.length_cons,hnc];rfl)|rfl) ?_|refine st_reg rfl (by first|(simp only[go_sem,strs_len,List.length_cons,hnc];rfl)|rfl) (by first|(simp only[go_sem,strs_len,List.length_cons,hnc];rfl)|rfl) ?_|refine st_op ?_|refine st_det rfl (by simp (disch:=omega) only[go_sem,wr_i64,if_yes,if_no,↓reduceIte,reduceAdd,reduceMul,reduceEqDiff,Nat.reduceBEq,reduceLeDiff,strs_len,List.length_cons,hnc];rfl) ?_|refine st_heap rfl (by simp (disch:=omega) only[go_sem,wr_i64,if_yes,if_no,↓reduceIte,reduceAdd,reduceMul,reduceEqDiff,Nat.reduceBEq,reduceLeDiff,strs_len,List.length_cons,hnc];rfl) ?_|refine st_append (by simp (disch:=omega) only[go_sem,wr_i64,if_yes,if_no,↓reduceIte,reduceAdd,reduceMul,reduceEqDiff,Nat.reduceBEq,reduceLeDiff,strs_len,List.length_cons,hnc];rfl) ?_|refine st_gT rfl rfl rfl ?_|refine st_gF rfl rfl rfl ?_|(refine st_gS rfl rfl ?_ ?_ <;> intro hg <;> (try simp only[decide_eq_true_eq,decide_eq_false_iff_not,Bool.not_eq_true',Bool.not_eq_false'] at hg))|refine st_condT rfl ?_|refine st_condF rfl ?_|(refine st_condS rfl ?_ ?_ <;> intro hg <;> (try simp only[decide_eq_true_eq,decide_eq_false_iff_not,Bool.not_eq_true',Bool.not_eq_false'] at hg))|refine st_nil ?_|refine st_tN ?_|refine st_seq ?_|refine st_block ?_|refine st_skip ?_|refine st_exit ?_|refine st_ret ?_|refine st_tE ?_|refine st_tR ?_|refine st_bN ?_|refine st_bR ?_|refine st_bH ?_|refine st_bM rfl ?_)
    all_goals try (exfalso;omega)
    simp (disch:=omega) only[AEnd,Tryz.results37,aresK,fin,go_sem,↓reduceIte,reduceEqDiff,reduceAdd,reduceLeDiff,if_yes,if_no,implies_true,true_and,and_true,List.reverse_cons,List.reverse_nil]
    refine ⟨hnc,hat,hlp,?_⟩
    rw [hyes ns hns]
    exact SlA.ansT (R:=fun v=>v=.tup [.lst 1 (ns.map iv),.bool true]) [] [.bool true] (fun _ _=>rfl) (fun _ _=>rfl) hS rfl
  obtain ⟨x,hx⟩:∃ x,x=ws.getD i []:=⟨_,rfl⟩
  have hxl:x.length≤1000000:=hx ▸ hsub _ (str_mem hil)
  have hxg:(strs ws).getD i []=[.str x]:=by rw [strs_getD hil,hx]
  have k62:=c62 x (by omega)
  have hn3:=numP_atoi (k:=7) (by decide) x
  have hfail:numP 7 x=none→(∃ v',VLe (.tup [.nils,.bool false]) v'∧v'=nmV 7 word ws.length s):=fun q=>hno (hfail0 (hbad i hil (hx ▸ q)))
  rcases ha:atoiAll x with z|_|_
  rotate_left 1
  ·
    rw [atoiV,ha] at k62
    rw [ha] at hn3
    repeat' (first|refine st_seq_reg rfl (by first|(simp only[go_sem,strs_len,List.length_cons,hnc,hxg];rfl)|rfl) (by first|(simp only[go_sem,strs_len,List.length_cons,hnc,hxg];rfl)|rfl) ?_|refine st_reg rfl (by first|(simp only[go_sem,strs_len,List.length_cons,hnc,hxg];rfl)|rfl) (by first|(simp only[go_sem,strs_len,List.length_cons,hnc,hxg];rfl)|rfl) ?_|refine st_op ?_|refine st_det rfl (by simp (disch:=omega) only[go_sem,wr_i64,if_yes,if_no,↓reduceIte,reduceAdd,reduceMul,reduceEqDiff,Nat.reduceBEq,reduceLeDiff,strs_len,List.length_cons,hnc,hxg];rfl) ?_|refine st_heap rfl (by simp (disch:=omega) only[go_sem,wr_i64,if_yes,if_no,↓reduceIte,reduceAdd,reduceMul,reduceEqDiff,Nat.reduceBEq,reduceLeDiff,strs_len,List.length_cons,hnc,hxg];rfl) ?_|refine st_append (by simp (disch:=omega) only[go_sem,wr_i64,if_yes,if_no,↓reduceIte,reduceAdd,reduceMul,reduceEqDiff,Nat.reduceBEq,reduceLeDiff,strs_len,List.length_cons,hnc,hxg];rfl) ?_|(refine st_pureGE (by first|(simp (disch:=omega) only[go_sem,strs_len,List.length_cons,hnc,hxg];rfl)|rfl) rfl (k62) (by exact hgl) (by first|(simp only[go_sem,strs_len,List.length_cons,hnc,hxg];rfl)|rfl) (by intro n;first|(simp (disch:=omega) only[go_sem];rfl)|rfl) ?_;intro n hn)|refine st_gT rfl rfl rfl ?_|refine st_gF rfl rfl rfl ?_|(refine st_gS rfl rfl ?_ ?_ <;> intro hg <;> (try simp only[decide_eq_true_eq,decide_eq_false_iff_not,Bool.not_eq_true',Bool.not_eq_false'] at hg))|refine st_condT rfl ?_|refine st_condF rfl ?_|(refine st_condS rfl ?_ ?_ <;> intro hg <;> (try simp only[decide_eq_true_eq,decide_eq_false_iff_not,Bool.not_eq_true',Bool.not_eq_false'] at hg))|refine st_nil ?_|refine st_tN ?_|refine st_seq ?_|refine st_block ?_|refine st_skip ?_|refine st_exit ?_|refine st_ret ?_|refine st_tE ?_|refine st_tR ?_|refine st_bN ?_|refine st_bR ?_|refine st_bH ?_|refine st_bM rfl ?_)
    all_goals try (exfalso;omega)
    simp (disch:=omega) only[AEnd,Tryz.results37,aresK,fin,go_sem,↓reduceIte,reduceEqDiff,reduceAdd,reduceLeDiff,if_yes,if_no,implies_true,true_and,and_true,List.reverse_cons,List.reverse_nil]
    exact ⟨hat,hlp,.inl (hfail hn3)⟩
  ·
    rw [atoiV,ha] at k62
    rw [ha] at hn3
    repeat' (first|refine st_seq_reg rfl (by first|(simp only[go_sem,strs_len,List.length_cons,hnc,hxg];rfl)|rfl) (by first|(simp only[go_sem,strs_len,List.length_cons,hnc,hxg];rfl)|rfl) ?_|refine st_reg rfl (by first|(simp only[go_sem,strs_len,List.length_cons,hnc,hxg];rfl)|rfl) (by first|(simp only[go_sem,strs_len,List.length_cons,hnc,hxg];rfl)|rfl) ?_|refine st_op ?_|refine st_det rfl (by simp (disch:=omega) only[go_sem,wr_i64,if_yes,if_no,↓reduceIte,reduceAdd,reduceMul,reduceEqDiff,Nat.reduceBEq,reduceLeDiff,strs_len,List.length_cons,hnc,hxg];rfl) ?_|refine st_heap rfl (by simp (disch:=omega) only[go_sem,wr_i64,if_yes,if_no,↓reduceIte,reduceAdd,reduceMul,reduceEqDiff,Nat.reduceBEq,reduceLeDiff,strs_len,List.length_cons,hnc,hxg];rfl) ?_|refine st_append (by simp (disch:=omega) only[go_sem,wr_i64,if_yes,if_no,↓reduceIte,reduceAdd,reduceMul,reduceEqDiff,Nat.reduceBEq,reduceLeDiff,strs_len,List.length_cons,hnc,hxg];rfl) ?_|(refine st_pureGE (by first|(simp (disch:=omega) only[go_sem,strs_len,List.length_cons,hnc,hxg];rfl)|rfl) rfl (k62) (by exact hgl) (by first|(simp only[go_sem,strs_len,List.length_cons,hnc,hxg];rfl)|rfl) (by intro n;first|(simp (disch:=omega) only[go_sem];rfl)|rfl) ?_;intro n hn)|refine st_gT rfl rfl rfl ?_|refine st_gF rfl rfl rfl ?_|(refine st_gS rfl rfl ?_ ?_ <;> intro hg <;> (try simp only[decide_eq_true_eq,decide_eq_false_iff_not,Bool.not_eq_true',Bool.not_eq_false'] at hg))|refine st_condT rfl ?_|refine st_condF rfl ?_|(refine st_condS rfl ?_ ?_ <;> intro hg <;> (try simp only[decide_eq_true_eq,decide_eq_false_iff_not,Bool.not_eq_true',Bool.not_eq_false'] at hg))|refine st_nil ?_|refine st_tN ?_|refine st_seq ?_|refine st_block ?_|refine st_skip ?_|refine st_exit ?_|refine st_ret ?_|refine st_tE ?_|refine st_tR ?_|refine st_bN ?_|refine st_bR ?_|refine st_bH ?_|refine st_bM rfl ?_)
    all_goals try (exfalso;omega)
    simp (disch:=omega) only[AEnd,Tryz.results37,aresK,fin,go_sem,↓reduceIte,reduceEqDiff,reduceAdd,reduceLeDiff,if_yes,if_no,implies_true,true_and,and_true,List.reverse_cons,List.reverse_nil]
    exact ⟨hat,hlp,.inl (hfail hn3)⟩
  ·
    have hbd:=atoi_bd ha
    rw [atoiV,ha] at k62
    rw [ha] at hn3
    simp only at hn3
    have k30:=c30 z hbd.1 hbd.2
    by_cases h1:z < 0
    · rw [if_pos (.inl h1)] at hn3
      repeat' (first|refine st_seq_reg rfl (by first|(simp only[go_sem,strs_len,List.length_cons,hnc,hxg];rfl)|rfl) (by first|(simp only[go_sem,strs_len,List.length_cons,hnc,hxg];rfl)|rfl) ?_|refine st_reg rfl (by first|(simp only[go_sem,strs_len,List.length_cons,hnc,hxg];rfl)|rfl) (by first|(simp only[go_sem,strs_len,List.length_cons,hnc,hxg];rfl)|rfl) ?_|refine st_op ?_|refine st_det rfl (by simp (disch:=omega) only[go_sem,wr_i64,if_yes,if_no,↓reduceIte,reduceAdd,reduceMul,reduceEqDiff,Nat.reduceBEq,reduceLeDiff,strs_len,List.length_cons,hnc,hxg];rfl) ?_|refine st_heap rfl (by simp (disch:=omega) only[go_sem,wr_i64,if_yes,if_no,↓reduceIte,reduceAdd,reduceMul,reduceEqDiff,Nat.reduceBEq,reduceLeDiff,strs_len,List.length_cons,hnc,hxg];rfl) ?_|refine st_append (by simp (disch:=omega) only[go_sem,wr_i64,if_yes,if_no,↓reduceIte,reduceAdd,reduceMul,reduceEqDiff,Nat.reduceBEq,reduceLeDiff,strs_len,List.length_cons,hnc,hxg];rfl) ?_|(refine st_pureGE (by first|(simp (disch:=omega) only[go_sem,strs_len,List.length_cons,hnc,hxg];rfl)|rfl) rfl (k62) (by exact hgl) (by first|(simp only[go_sem,strs_len,List.length_cons,hnc,hxg];rfl)|rfl) (by intro n;first|(simp (disch:=omega) only[go_sem];rfl)|rfl) ?_;intro n hn)|refine st_gT rfl rfl rfl ?_|refine st_gF rfl rfl rfl ?_|(refine st_gS rfl rfl ?_ ?_ <;> intro hg <;> (try simp only[decide_eq_true_eq,decide_eq_false_iff_not,Bool.not_eq_true',Bool.not_eq_false'] at hg))|refine st_condT rfl ?_|refine st_condF rfl ?_|(refine st_condS rfl ?_ ?_ <;> intro hg <;> (try simp only[decide_eq_true_eq,decide_eq_false_iff_not,Bool.not_eq_true',Bool.not_eq_false'] at hg))|refine st_nil ?_|refine st_tN ?_|refine st_seq ?_|refine st_block ?_|refine st_skip ?_|refine st_exit ?_|refine st_ret ?_|refine st_tE ?_|refine st_tR ?_|refine st_bN ?_|refine st_bR ?_|refine st_bH ?_|refine st_bM rfl ?_)
      all_goals try (exfalso;omega)
      simp (disch:=omega) only[AEnd,Tryz.results37,aresK,fin,go_sem,↓reduceIte,reduceEqDiff,reduceAdd,reduceLeDiff,if_yes,if_no,implies_true,true_and,and_true,List.reverse_cons,List.reverse_nil]
      exact ⟨hat,hlp,.inl (hfail hn3)⟩
    by_cases h2:7 < x.length
    · rw [if_pos (.inr (.inl h2))] at hn3
      repeat' (first|refine st_seq_reg rfl (by first|(simp only[go_sem,strs_len,List.length_cons,hnc,hxg];rfl)|rfl) (by first|(simp only[go_sem,strs_len,List.length_cons,hnc,hxg];rfl)|rfl) ?_|refine st_reg rfl (by first|(simp only[go_sem,strs_len,List.length_cons,hnc,hxg];rfl)|rfl) (by first|(simp only[go_sem,strs_len,List.length_cons,hnc,hxg];rfl)|rfl) ?_|refine st_op ?_|refine st_det rfl (by simp (disch:=omega) only[go_sem,wr_i64,if_yes,if_no,↓reduceIte,reduceAdd,reduceMul,reduceEqDiff,Nat.reduceBEq,reduceLeDiff,strs_len,List.length_cons,hnc,hxg];rfl) ?_|refine st_heap rfl (by simp (disch:=omega) only[go_sem,wr_i64,if_yes,if_no,↓reduceIte,reduceAdd,reduceMul,reduceEqDiff,Nat.reduceBEq,reduceLeDiff,strs_len,List.length_cons,hnc,hxg];rfl) ?_|refine st_append (by simp (disch:=omega) only[go_sem,wr_i64,if_yes,if_no,↓reduceIte,reduceAdd,reduceMul,reduceEqDiff,Nat.reduceBEq,reduceLeDiff,strs_len,List.length_cons,hnc,hxg];rfl) ?_|(refine st_pureGE (by first|(simp (disch:=omega) only[go_sem,strs_len,List.length_cons,hnc,hxg];rfl)|rfl) rfl (k62) (by exact hgl) (by first|(simp only[go_sem,strs_len,List.length_cons,hnc,hxg];rfl)|rfl) (by intro n;first|(simp (disch:=omega) only[go_sem];rfl)|rfl) ?_;intro n hn)|refine st_gT rfl rfl rfl ?_|refine st_gF rfl rfl rfl ?_|(refine st_gS rfl rfl ?_ ?_ <;> intro hg <;> (try simp only[decide_eq_true_eq,decide_eq_false_iff_not,Bool.not_eq_true',Bool.not_eq_false'] at hg))|refine st_condT rfl ?_|refine st_condF rfl ?_|(refine st_condS rfl ?_ ?_ <;> intro hg <;> (try simp only[decide_eq_true_eq,decide_eq_false_iff_not,Bool.not_eq_true',Bool.not_eq_false'] at hg))|refine st_nil ?_|refine st_tN ?_|refine st_seq ?_|refine st_block ?_|refine st_skip ?_|refine st_exit ?_|refine st_ret ?_|refine st_tE ?_|refine st_tR ?_|refine st_bN ?_|refine st_bR ?_|refine st_bH ?_|refine st_bM rfl ?_)
      all_goals try (exfalso;omega)
      simp (disch:=omega) only[AEnd,Tryz.results37,aresK,fin,go_sem,↓reduceIte,reduceEqDiff,reduceAdd,reduceLeDiff,if_yes,if_no,implies_true,true_and,and_true,List.reverse_cons,List.reverse_nil]
      exact ⟨hat,hlp,.inl (hfail hn3)⟩
    by_cases h3:itoa z=x
    case neg =>
      rw [if_pos (.inr (.inr h3))] at hn3
      repeat' (first|refine st_seq_reg rfl (by first|(simp only[go_sem,strs_len,List.length_cons,hnc,hxg,h3];rfl)|rfl) (by first|(simp only[go_sem,strs_len,List.length_cons,hnc,hxg,h3];rfl)|rfl) ?_|refine st_reg rfl (by first|(simp only[go_sem,strs_len,List.length_cons,hnc,hxg,h3];rfl)|rfl) (by first|(simp only[go_sem,strs_len,List.length_cons,hnc,hxg,h3];rfl)|rfl) ?_|refine st_op ?_|refine st_det rfl (by simp (disch:=omega) only[go_sem,wr_i64,if_yes,if_no,↓reduceIte,reduceAdd,reduceMul,reduceEqDiff,Nat.reduceBEq,reduceLeDiff,strs_len,List.length_cons,hnc,hxg,h3];rfl) ?_|refine st_heap rfl (by simp (disch:=omega) only[go_sem,wr_i64,if_yes,if_no,↓reduceIte,reduceAdd,reduceMul,reduceEqDiff,Nat.reduceBEq,reduceLeDiff,strs_len,List.length_cons,hnc,hxg,h3];rfl) ?_|refine st_append (by simp (disch:=omega) only[go_sem,wr_i64,if_yes,if_no,↓reduceIte,reduceAdd,reduceMul,reduceEqDiff,Nat.reduceBEq,reduceLeDiff,strs_len,List.length_cons,hnc,hxg,h3];rfl) ?_|(refine st_pureGE (by first|(simp (disch:=omega) only[go_sem,strs_len,List.length_cons,hnc,hxg,h3];rfl)|rfl) rfl (k62) (by exact hgl) (by first|(simp only[go_sem,strs_len,List.length_cons,hnc,hxg,h3];rfl)|rfl) (by intro n;first|(simp (disch:=omega) only[go_sem];rfl)|rfl) ?_;intro n hn)|(refine st_pureGE (by first|(simp (disch:=omega) only[go_sem,strs_len,List.length_cons,hnc,hxg,h3];rfl)|rfl) rfl (k30) (by exact hgl) (by first|(simp only[go_sem,strs_len,List.length_cons,hnc,hxg,h3];rfl)|rfl) (by intro n;first|(simp (disch:=omega) only[go_sem];rfl)|rfl) ?_;intro n hn)|refine st_gT rfl rfl rfl ?_|refine st_gF rfl rfl rfl ?_|(refine st_gS rfl rfl ?_ ?_ <;> intro hg <;> (try simp only[decide_eq_true_eq,decide_eq_false_iff_not,Bool.not_eq_true',Bool.not_eq_false'] at hg))|refine st_condT rfl ?_|refine st_condF rfl ?_|(refine st_condS rfl ?_ ?_ <;> intro hg <;> (try simp only[decide_eq_true_eq,decide_eq_false_iff_not,Bool.not_eq_true',Bool.not_eq_false'] at hg))|refine st_nil ?_|refine st_tN ?_|refine st_seq ?_|refine st_block ?_|refine st_skip ?_|refine st_exit ?_|refine st_ret ?_|refine st_tE ?_|refine st_tR ?_|refine st_bN ?_|refine st_bR ?_|refine st_bH ?_|refine st_bM rfl ?_)
      all_goals try (exfalso;omega)
      simp (disch:=omega) only[AEnd,Tryz.results37,aresK,fin,go_sem,↓reduceIte,reduceEqDiff,reduceAdd,reduceLeDiff,if_yes,if_no,implies_true,true_and,and_true,List.reverse_cons,List.reverse_nil]
      exact ⟨hat,hlp,.inl (hfail hn3)⟩
    rw [if_neg (by rintro (q|q|q);exact h1 q;exact h2 q;exact q h3)] at hn3
    repeat' (first|refine st_seq_reg rfl (by first|(simp only[go_sem,strs_len,List.length_cons,hnc,hxg,h3];rfl)|rfl) (by first|(simp only[go_sem,strs_len,List.length_cons,hnc,hxg,h3];rfl)|rfl) ?_|refine st_reg rfl (by first|(simp only[go_sem,strs_len,List.length_cons,hnc,hxg,h3];rfl)|rfl) (by first|(simp only[go_sem,strs_len,List.length_cons,hnc,hxg,h3];rfl)|rfl) ?_|refine st_op ?_|refine st_det rfl (by simp (disch:=omega) only[go_sem,wr_i64,if_yes,if_no,↓reduceIte,reduceAdd,reduceMul,reduceEqDiff,Nat.reduceBEq,reduceLeDiff,strs_len,List.length_cons,hnc,hxg,h3];rfl) ?_|refine st_heap rfl (by simp (disch:=omega) only[go_sem,wr_i64,if_yes,if_no,↓reduceIte,reduceAdd,reduceMul,reduceEqDiff,Nat.reduceBEq,reduceLeDiff,strs_len,List.length_cons,hnc,hxg,h3];rfl) ?_|refine st_append (by simp (disch:=omega) only[go_sem,wr_i64,if_yes,if_no,↓reduceIte,reduceAdd,reduceMul,reduceEqDiff,Nat.reduceBEq,reduceLeDiff,strs_len,List.length_cons,hnc,hxg,h3];rfl) ?_|(refine st_pureGE (by first|(simp (disch:=omega) only[go_sem,strs_len,List.length_cons,hnc,hxg,h3];rfl)|rfl) rfl (k62) (by exact hgl) (by first|(simp only[go_sem,strs_len,List.length_cons,hnc,hxg,h3];rfl)|rfl) (by intro n;first|(simp (disch:=omega) only[go_sem];rfl)|rfl) ?_;intro n hn)|(refine st_pureGE (by first|(simp (disch:=omega) only[go_sem,strs_len,List.length_cons,hnc,hxg,h3];rfl)|rfl) rfl (k30) (by exact hgl) (by first|(simp only[go_sem,strs_len,List.length_cons,hnc,hxg,h3];rfl)|rfl) (by intro n;first|(simp (disch:=omega) only[go_sem];rfl)|rfl) ?_;intro n hn)|(refine st_appSg (by intro h id x y;simp only[go_sem];rfl) rfl (by simp only[go_sem,strs_len,List.length_cons,hnc,hxg,h3];rfl) (by first|(simp only[go_sem,strs_len,List.length_cons,hnc,hxg,h3];rfl)|rfl) (by decide) hS (fun _ _ _=>rfl) (by omega) (by simp only[List.length_map,List.length_cons,List.length_nil,big,strs_len,List.length_cons,hnc,hxg,h3];omega) (by omega) (by omega) ?_;intro v' g' hA hAg)|refine st_gT rfl rfl rfl ?_|refine st_gF rfl rfl rfl ?_|(refine st_gS rfl rfl ?_ ?_ <;> intro hg <;> (try simp only[decide_eq_true_eq,decide_eq_false_iff_not,Bool.not_eq_true',Bool.not_eq_false'] at hg))|refine st_condT rfl ?_|refine st_condF rfl ?_|(refine st_condS rfl ?_ ?_ <;> intro hg <;> (try simp only[decide_eq_true_eq,decide_eq_false_iff_not,Bool.not_eq_true',Bool.not_eq_false'] at hg))|refine st_nil ?_|refine st_tN ?_|refine st_seq ?_|refine st_block ?_|refine st_skip ?_|refine st_exit ?_|refine st_ret ?_|refine st_tE ?_|refine st_tR ?_|refine st_bN ?_|refine st_bR ?_|refine st_bH ?_|refine st_bM rfl ?_)
    all_goals try (exfalso;omega)
    have hns2:numsP 7 (ws.take (i+1))=some (ns ++ [z]):=by
      rw [take_str hil,numsP_snoc,hns,← hx,hn3]
      simp only
      rw [show ((z.toNat:Nat):Int)=z by omega]
    refine ⟨⟨i+1,v',ns ++ [z],_⟩,(by exact ⟨by show i+1≤ws.length;omega,hns2,by simp [hnl],by rw [List.map_append];exact hA.sl.to (fun _ _ _ _ _=>rfl) (by (try simp only[go_sem]);omega),fun b' hb'=>(hA.old b' hb').trans (hat b' hb'),hA.lp.trans hlp,hAg.trans hgl,by (try simp only[go_sem]);omega⟩),(by show ws.length - (i+1) < ws.length - i;omega),(by repeat' (first|exact trivial|refine And.intro ?_ ?_|rfl|(simp (disch:=omega) only[go_sem,if_yes,if_no,↓reduceIte,reduceAdd,reduceMul,reduceEqDiff,Nat.reduceBEq,reduceLeDiff];rfl)|(simp (disch:=omega) only[go_sem,if_yes,if_no,↓reduceIte,reduceAdd,reduceMul,reduceEqDiff,Nat.reduceBEq,reduceLeDiff]))),(by repeat' (first|exact trivial|refine And.intro ?_ ?_|rfl|(simp (disch:=omega) only[go_sem,if_yes,if_no,↓reduceIte,reduceAdd,reduceMul,reduceEqDiff,Nat.reduceBEq,reduceLeDiff];rfl)|(simp (disch:=omega) only[go_sem,if_yes,if_no,↓reduceIte,reduceAdd,reduceMul,reduceEqDiff,Nat.reduceBEq,reduceLeDiff]))),rfl,HOld.refl _⟩
end Go.Proofs.YthpkmcjiobnpgaaGreatDoor
