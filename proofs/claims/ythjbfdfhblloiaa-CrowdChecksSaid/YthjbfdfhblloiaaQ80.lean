/- Contracts of functions that the claim reaches: what each call gives, told in our own logic. Conditions: those of each theorem. -/
import Derived.Test.YthjbfdfhblloiaaBaseC
import Derived.Test.YthjbfdfhblloiaaBaseD
import Derived.Test.YthjbfdfhblloiaaQ75
import Derived.Test.YthjbfdfhblloiaaQ59
import Derived.Test.YthjbfdfhblloiaaQS
import Derived.Test.YthjbfdfhblloiaaQ29
open Nat (reduceAdd reduceMul reduceEqDiff reduceLeDiff)
open List (length_map)
set_option linter.all false
set_option linter.unusedSimpArgs false
set_option linter.unusedVariables false
namespace Go.Proofs.Ythjbfdfhblloiaa
open Go.Av
attribute [local irreducible] thenA blockA awp awpOps awpD awp1
set_option maxHeartbeats 8000000
set_option maxRecDepth 20000
theorem stills {l:List Int} {z:Nat}:Still (.lst z (l.map iv)):=Still.lst fun r hr x hx=>by
  obtain ⟨a,_,rfl⟩:=List.mem_map.1 hr
  unfold iv at hx
  rw [List.mem_singleton] at hx
  rw [hx];exact Still.int _ _
theorem Tw.cells_still (t:Tw) {x:AV} (hx:x ∈ t.cells):Still x:=by
  unfold Tw.cells at hx
  simp only[List.mem_cons,List.not_mem_nil,or_false] at hx
  rcases hx with rfl|rfl|rfl|rfl
  · exact stills
  · refine Still.lst fun r hr x hx=>?_
    obtain ⟨a,_,rfl⟩:=List.mem_map.1 hr
    unfold Sx.row at hx
    simp only[List.mem_cons,List.not_mem_nil,or_false] at hx
    rcases hx with rfl|rfl
    · exact Still.int _ _
    · exact Still.int _ _
  · refine Still.lst fun r hr x hx=>?_
    obtain ⟨a,_,rfl⟩:=List.mem_map.1 hr
    unfold Gp.row at hx
    simp only[List.mem_cons,List.not_mem_nil,or_false] at hx
    rcases hx with rfl|rfl|rfl|rfl|rfl|rfl|rfl
    all_goals first|exact Still.int _ _|exact stills
  · exact Still.int _ _
theorem Tw.av_still (t:Tw):Still t.av:=fun b k=>by
  show frz b k (.agg t.cells)=.agg t.cells
  simp only[frz]
  rw [frzs_fix t.cells fun x hx=>t.cells_still hx b k]
theorem c19 (t:Tw) (most:Int) (h6:chkE t=0→t.sts.length≤6):Pure Try.prog 19 [t.av,.int .i64 most] (fun v=>v=proveV t most):=by
  have k52:=c52 t
  have k65:=c65 most 0 12
  have ht0:t.av=.agg t.cells:=rfl
  refine Pure.give Try.call19 fun h hall=>?_
  by_cases h0:chkE t=0
  case neg =>
    refine ACalls.of tab mixed Try.call19 Try.func19 rfl (fi:=⟨36,[],[2],none,[(9,[0,0,0,4,12,28,63,127],[(0,true),(1,false),(2,false),(3,true),(4,false),(5,false),(6,false),(7,false)])]⟩) rfl rfl (Nat.le_of_ble_eq_true rfl) (by decide) ?_
    unfold startA
    simp only[go_sem]
    repeat' (first|refine st_seq_reg rfl (by first|(simp only[go_sem];rfl)|rfl) (by first|(simp only[go_sem];rfl)|rfl) ?_|refine st_op ?_|refine st_det rfl (by simp (disch:=omega) only[go_sem,wr_i64,if_yes,if_no,↓reduceIte,reduceAdd,reduceMul,reduceEqDiff,Nat.reduceBEq,reduceLeDiff];rfl) ?_|(refine st_pureE (by first|(simp (disch:=omega) only[go_sem];rfl)|rfl) rfl (k52) (by first|(simp only[go_sem];rfl)|rfl) (by intro n;first|(simp (disch:=omega) only[go_sem];rfl)|rfl) ?_;intro n hn)|(refine st_condS rfl ?_ ?_ <;> intro hg <;> (try simp only[decide_eq_true_eq,decide_eq_false_iff_not,Bool.not_eq_true',Bool.not_eq_false'] at hg))|refine st_nil ?_|refine st_tN ?_|refine st_seq ?_|refine st_skip ?_|refine st_ret ?_|refine st_tR ?_)
    all_goals try (exfalso;omega)
    simp (disch:=omega) only[AEnd,Try.results19,aresK,fin,go_sem,↓reduceIte,reduceEqDiff,reduceAdd,reduceLeDiff,if_yes,if_no,implies_true,true_and,and_true,List.reverse_cons,List.reverse_nil]
    exact .inl ⟨_,le_nil2 _ 4,by unfold proveV;rw [if_pos h0]⟩
  rw [h0] at k52
  have hT:=townOk h0
  have hsn:=hT.sn
  have hs6:=h6 h0
  by_cases h1:0≤most∧most≤12
  case neg =>
    rw [decide_eq_false h1] at k65
    refine ACalls.of tab mixed Try.call19 Try.func19 rfl (fi:=⟨36,[],[2],none,[(9,[0,0,0,4,12,28,63,127],[(0,true),(1,false),(2,false),(3,true),(4,false),(5,false),(6,false),(7,false)])]⟩) rfl rfl (Nat.le_of_ble_eq_true rfl) (by decide) ?_
    unfold startA
    simp only[go_sem]
    repeat' (first|refine st_seq_reg rfl (by first|(simp only[go_sem];rfl)|rfl) (by first|(simp only[go_sem];rfl)|rfl) ?_|refine st_op ?_|refine st_det rfl (by simp (disch:=omega) only[go_sem,wr_i64,if_yes,if_no,↓reduceIte,reduceAdd,reduceMul,reduceEqDiff,Nat.reduceBEq,reduceLeDiff];rfl) ?_|(refine st_pureE (by first|(simp (disch:=omega) only[go_sem];rfl)|rfl) rfl (k52) (by first|(simp only[go_sem];rfl)|rfl) (by intro n;first|(simp (disch:=omega) only[go_sem];rfl)|rfl) ?_;intro n hn)|(refine st_pureE (by first|(simp (disch:=omega) only[go_sem];rfl)|rfl) rfl (k65) (by first|(simp only[go_sem];rfl)|rfl) (by intro n;first|(simp (disch:=omega) only[go_sem];rfl)|rfl) ?_;intro n hn)|refine st_condT rfl ?_|refine st_condF rfl ?_|refine st_nil ?_|refine st_tN ?_|refine st_seq ?_|refine st_skip ?_|refine st_ret ?_|refine st_tR ?_)
    all_goals try (exfalso;omega)
    simp (disch:=omega) only[AEnd,Try.results19,aresK,fin,go_sem,↓reduceIte,reduceEqDiff,reduceAdd,reduceLeDiff,if_yes,if_no,implies_true,true_and,and_true,List.reverse_cons,List.reverse_nil]
    exact .inl ⟨_,le_nil2 _ 4,by unfold proveV;rw [if_neg (fun e=>e h0),if_pos h1]⟩
  rw [decide_eq_true h1] at k65
  obtain ⟨M,rfl⟩:∃ m:Nat,most=m:=⟨most.toNat,by omega⟩
  have hE:proveV t (M:Nat)=prvV t M:=by
    unfold proveV;rw [if_neg (fun e=>e h0),if_neg (fun e=>e h1)];rfl
  rw [hE]
  have k66:=c66 t M hT (by omega)
  cases hcl:clo t M with
  | some L =>
    have hV:cloW t M=.tup [.lst 1 (L.map iv),.bool true]:=by unfold cloW;rw [hcl]
    rw [hV] at k66
    refine ACalls.of tab mixed Try.call19 Try.func19 rfl (fi:=⟨36,[],[2],none,[(9,[0,0,0,4,12,28,63,127],[(0,true),(1,false),(2,false),(3,true),(4,false),(5,false),(6,false),(7,false)])]⟩) rfl rfl (Nat.le_of_ble_eq_true rfl) (by decide) ?_
    unfold startA
    simp only[go_sem]
    repeat' (first|refine st_seq_reg rfl (by first|(simp only[go_sem];rfl)|rfl) (by first|(simp only[go_sem];rfl)|rfl) ?_|refine st_op ?_|refine st_det rfl (by simp (disch:=omega) only[go_sem,wr_i64,if_yes,if_no,↓reduceIte,reduceAdd,reduceMul,reduceEqDiff,Nat.reduceBEq,reduceLeDiff];rfl) ?_|(refine st_pureE (by first|(simp (disch:=omega) only[go_sem];rfl)|rfl) rfl (k52) (by first|(simp only[go_sem];rfl)|rfl) (by intro n;first|(simp (disch:=omega) only[go_sem];rfl)|rfl) ?_;intro n hn)|(refine st_pureE (by first|(simp (disch:=omega) only[go_sem];rfl)|rfl) rfl (k65) (by first|(simp only[go_sem];rfl)|rfl) (by intro n;first|(simp (disch:=omega) only[go_sem];rfl)|rfl) ?_;intro n hn)|(refine st_pureE (by first|(simp (disch:=omega) only[go_sem];rfl)|rfl) rfl (k66) (by first|(simp only[go_sem];rfl)|rfl) (by intro n;first|(simp (disch:=omega) only[go_sem];rfl)|rfl) ?_;intro n hn)|refine st_condT rfl ?_|refine st_condF rfl ?_|refine st_nil ?_|refine st_tN ?_|refine st_seq ?_|refine st_skip ?_|refine st_ret ?_|refine st_tR ?_)
    all_goals try (exfalso;omega)
    simp (disch:=omega) only[AEnd,Try.results19,aresK,fin,go_sem,↓reduceIte,reduceEqDiff,reduceAdd,reduceLeDiff,if_yes,if_no,implies_true,true_and,and_true,List.reverse_cons,List.reverse_nil]
    exact .inl ⟨_,le_nil2 _ 4,by unfold prvV;rw [hcl]⟩
  | none =>
    have hV:cloW t M=.tup [.lst 1 [],.bool false]:=by unfold cloW;rw [hcl]
    rw [hV] at k66
    have hP:prvV t M=.tup [.lst 4 ((prv t (M:Nat) (t.sts.length+1) (List.replicate t.sts.length 0)).map Rn.row),.int .i64 0]:=by unfold prvV;rw [hcl]
    rw [hP]
    have h2:(2:Nat) ^ (t.sts.length+1)≤2 ^ 7:=Nat.pow_le_pow_right (by decide) (by omega)
    have hpl:=prv_len t (M:Nat) (t.sts.length+1) (List.replicate t.sts.length 0)
    have hav:=t.av_still
    refine ACalls.of tab mixed Try.call19 Try.func19 rfl (fi:=⟨36,[],[2],none,[(9,[0,0,0,4,12,28,63,127],[(0,true),(1,false),(2,false),(3,true),(4,false),(5,false),(6,false),(7,false)])]⟩) rfl rfl (Nat.le_of_ble_eq_true rfl) (by decide) ?_
    unfold startA
    rw [ht0]
    unfold Tw.cells
    repeat' (first|refine st_seq_reg rfl (by first|(simp only[go_sem,length_map];rfl)|rfl) (by first|(simp only[go_sem,length_map];rfl)|rfl) ?_|refine st_seq_draw rfl (by first|(simp only[go_sem,length_map];rfl)|rfl) (by first|(simp only[go_sem,length_map];rfl)|rfl) ?_|refine st_op ?_|refine st_det rfl (by simp (disch:=omega) only[go_sem,wr_i64,if_yes,if_no,↓reduceIte,reduceAdd,reduceMul,reduceEqDiff,Nat.reduceBEq,reduceLeDiff,length_map];rfl) ?_|refine st_dop rfl ?_|refine st_heap rfl (by simp (disch:=omega) only[go_sem,wr_i64,if_yes,if_no,↓reduceIte,reduceAdd,reduceMul,reduceEqDiff,Nat.reduceBEq,reduceLeDiff,length_map];rfl) ?_|(refine st_pureE (by first|(simp (disch:=omega) only[go_sem,length_map];rfl)|rfl) rfl (k52) (by first|(simp only[go_sem,length_map];rfl)|rfl) (by intro n;first|(simp (disch:=omega) only[go_sem];rfl)|rfl) ?_;intro n hn)|(refine st_pureE (by first|(simp (disch:=omega) only[go_sem,length_map];rfl)|rfl) rfl (k65) (by first|(simp only[go_sem,length_map];rfl)|rfl) (by intro n;first|(simp (disch:=omega) only[go_sem];rfl)|rfl) ?_;intro n hn)|(refine st_pureE (by first|(simp (disch:=omega) only[go_sem,length_map];rfl)|rfl) rfl (k66) (by first|(simp only[go_sem,length_map];rfl)|rfl) (by intro n;first|(simp (disch:=omega) only[go_sem];rfl)|rfl) ?_;intro n hn)|refine st_condF rfl ?_|refine st_nil ?_|refine st_tN ?_|refine st_seq ?_|refine st_skip ?_)
    all_goals try (exfalso;omega)
    rename_i n hn
    have hz:AV.lst 1 ((List.replicate t.sts.length (0:Int)).map iv)=frz (n+1,30) ⟨1,List.replicate t.sts.length [.int .i64 0]⟩ (.slc (n+1,30) 1 0 t.sts.length):=by
      have e:=frz_lst (b:=(n+1,30)) (z:=1) (l:=List.replicate t.sts.length [AV.int .i64 0])
      rw [List.length_replicate] at e
      rw [e,List.map_replicate];rfl
    have hc:=c67 t (M:Nat) (n+2) hT (fun s a b c=>clo_none hT hcl a b c) (t.sts.length+1) (List.replicate t.sts.length 0) [] .nils (((h.tick (n+1+1)).put (n+1,30) (some ⟨1,List.replicate t.sts.length [.int .i64 0]⟩)).put (n+1,30) none) (ok94_zero t _) (by rw [cntZ_rep];omega) (by show 0+2 ^ (t.sts.length+1) < 4999;omega) (by simp only[go_sem];omega) (.inl ⟨rfl,rfl⟩)
    unfold W67 at hc
    rw [List.nil_append] at hc
    generalize prv t (M:Nat) (t.sts.length+1) (List.replicate t.sts.length 0)=p at *
    refine st_callf (args:=[t.av,.int .i64 (M:Nat),.slc (n+1,30) 1 0 t.sts.length,.nils]) rfl rfl (ACalls.frzIn (b:=(n+1,30)) (k:=⟨1,List.replicate t.sts.length [.int .i64 0]⟩) (by simp only[go_sem,↓reduceIte]) (by show _=[frz _ _ t.av,.int .i64 (M:Nat),frz _ _ (.slc (n+1,30) 1 0 t.sts.length),.nils];rw [hav,← hz]) hc) ?_
    rintro v1 g1 ⟨q1,q2,q3,q4⟩
    simp only[go_sem] at q1 q2 q3
    have hal:alen (tt 27) v1=some (p.length:Int):=hal67 q4
    have hnv:=q4.noL
    repeat' (first|refine st_seq_reg rfl (by first|(simp only[go_sem,hal,hnv];rfl)|rfl) (by first|(simp only[go_sem,hal,hnv];rfl)|rfl) ?_|refine st_op ?_|refine st_det rfl (by simp (disch:=omega) only[go_sem,wr_i64,if_yes,if_no,↓reduceIte,reduceAdd,reduceMul,reduceEqDiff,Nat.reduceBEq,reduceLeDiff,hal,hnv];rfl) ?_|refine st_dop rfl ?_|(refine st_condS rfl ?_ ?_ <;> intro hg <;> (try simp only[decide_eq_true_eq,decide_eq_false_iff_not,Bool.not_eq_true',Bool.not_eq_false'] at hg))|refine st_nil ?_|refine st_dnil ?_|refine st_tN ?_|refine st_seq ?_|refine st_skip ?_|refine st_ret ?_|refine st_tR ?_)
    all_goals try (exfalso;omega)
    simp (disch:=omega) only[AEnd,Try.results19,aresK,fin,go_sem,↓reduceIte,reduceEqDiff,reduceAdd,reduceLeDiff,if_yes,if_no,implies_true,true_and,and_true,List.reverse_cons,List.reverse_nil]
    have e9:∀ b':Bid,b'.1 < h.clk→¬ b'=(n+1,30):=fun b' hb'=>ne_fst hb' (by show h.clk≤n+1;omega)
    refine ⟨hnv,fun b' hb'=>by rw [q3 b' (by omega),if_neg (e9 b' hb')],q2,SlA.ans2 (h:=h) (g:=g1) (R:=fun v=>v=.tup [.lst 4 (p.map Rn.row),.int .i64 0]) (q4.weak (by omega)) rfl⟩
theorem w73_bad (t:Tw) (most:Int) (k:Nat) (s:List Int) (r:Rn) (q:List Rn) (hT:TwOk t) (hp:(r :: q).length≤1000000) (hsl:s.length=t.sts.length) (h3:¬ r=⟨3,0,0,0⟩) (h2:¬ (r.kind=2∧r.st=0)) (h1:r.kind=1∧r.sq=0∧r.step=0) (hc:¬ (0≤r.st∧r.st < t.sts.length∧elt s r.st.toNat=0)):W73 t most (k+1) s (r :: q):=by
  have hsn:=hT.sn
  have ht0:t.av=.agg t.cells:=rfl
  rw [List.length_cons] at hp
  have hP:pvd t most (k+1) s (r :: q)=none:=by
    show (if r=⟨3,0,0,0⟩ then _ else if _ then _ else if _ then (if _ then _ else _) else _)=_;rw [if_neg h3,if_neg h2,if_pos h1,if_neg hc]
  have d3:decide ([(IntKind.i64,r.kind),(.i64,r.st),(.i64,r.sq),(.i64,r.step)]=[(IntKind.i64,(3:Int)),(.i64,0),(.i64,0),(.i64,0)])=false:=decide_eq_false (fun e=>h3 ((rn_eq3 r).1 e))
  have d2:decide ([(IntKind.i64,r.kind),(.i64,r.st),(.i64,r.sq),(.i64,r.step)]=[(IntKind.i64,(2:Int)),(.i64,0),(.i64,r.sq),(.i64,r.step)])=false:=decide_eq_false (fun e=>h2 ((rn_eq2 r).1 e))
  have d1:decide ([(IntKind.i64,r.kind),(.i64,r.st),(.i64,r.sq),(.i64,r.step)]=[(IntKind.i64,(1:Int)),(.i64,r.st),(.i64,0),(.i64,0)])=true:=decide_eq_true ((rn_eq1 r).2 h1)
  have k1:=c65 r.st 0 (s.length - 1:Int)
  unfold W73
  refine Pure.give Try.call73 fun h hall=>?_
  rw [ht0]
  by_cases hin:0≤r.st∧r.st≤(s.length - 1:Int)
  case neg =>
    rw [decide_eq_false hin] at k1
    refine ACalls.of tab mixed Try.call73 Try.func73 rfl (fi:=⟨115,[10],[4],none,[(3,[0,1,3,0,8,0,39,127],[(0,false),(1,false),(2,true),(3,false),(4,false),(5,false),(6,false),(7,false)]),(10,[0,0,0,0,8,30,0,64,254,510,1022,0,2048,0,8192,30720,63488,131070,63,524287],[(0,false),(1,true),(2,false),(3,false),(4,true),(6,false),(7,true),(11,false),(12,true),(13,false),(14,true),(15,false),(16,true),(5,false),(8,false),(9,false),(10,true),(17,false),(18,false),(19,false)]),(14,[0,0,0,0,8,28,0,127,255,511,511,1023,4095],[(0,true),(1,false),(2,false),(3,false),(4,true),(6,false),(5,false),(7,false),(8,false),(9,false),(10,false),(11,false),(12,false)]),(17,[0,0,0,0,8,28,0,127,255,255,1023,2047],[(0,true),(1,false),(2,false),(3,false),(4,true),(6,false),(5,false),(7,false),(8,false),(9,false),(10,false),(11,false)])]⟩) rfl rfl (Nat.le_of_ble_eq_true rfl) (by decide) ?_
    unfold startA
    unfold Tw.cells
    repeat' (first|refine st_seq_reg rfl (by first|(simp only[go_sem,length_map,List.map_cons,List.length_cons,List.getD_cons_zero,Int.toNat_zero,d3,d2,d1,tail_row];rfl)|rfl) (by first|(simp only[go_sem,length_map,List.map_cons,List.length_cons,List.getD_cons_zero,Int.toNat_zero,d3,d2,d1,tail_row];rfl)|rfl) ?_|refine st_seq_draw rfl (by first|(simp only[go_sem,length_map,List.map_cons,List.length_cons,List.getD_cons_zero,Int.toNat_zero,d3,d2,d1,tail_row];rfl)|rfl) (by first|(simp only[go_sem,length_map,List.map_cons,List.length_cons,List.getD_cons_zero,Int.toNat_zero,d3,d2,d1,tail_row];rfl)|rfl) ?_|refine st_op ?_|refine st_det rfl (by simp (disch:=omega) only[go_sem,wr_i64,if_yes,if_no,↓reduceIte,reduceAdd,reduceMul,reduceEqDiff,Nat.reduceBEq,reduceLeDiff,length_map,List.map_cons,List.length_cons,List.getD_cons_zero,Int.toNat_zero,d3,d2,d1,tail_row];rfl) ?_|refine st_dop rfl ?_|refine st_loc rfl (by simp (disch:=omega) only[go_sem,wr_i64,if_yes,if_no,↓reduceIte,reduceAdd,reduceMul,reduceEqDiff,Nat.reduceBEq,reduceLeDiff,length_map,List.map_cons,List.length_cons,List.getD_cons_zero,Int.toNat_zero,d3,d2,d1,tail_row];rfl) ?_|refine st_store (by simp (disch:=omega) only[go_sem,wr_i64,if_yes,if_no,↓reduceIte,reduceAdd,reduceMul,reduceEqDiff,Nat.reduceBEq,reduceLeDiff,length_map,List.map_cons,List.length_cons,List.getD_cons_zero,Int.toNat_zero,d3,d2,d1,tail_row];rfl) ?_|(refine st_pureE (by first|(simp (disch:=omega) only[go_sem,length_map,List.map_cons,List.length_cons,List.getD_cons_zero,Int.toNat_zero,d3,d2,d1,tail_row];rfl)|rfl) rfl (k1) (by first|(simp only[go_sem,length_map,List.map_cons,List.length_cons,List.getD_cons_zero,Int.toNat_zero,d3,d2,d1,tail_row];rfl)|rfl) (by intro n;first|(simp (disch:=omega) only[go_sem];rfl)|rfl) ?_;intro n hn)|refine st_gF rfl rfl rfl ?_|refine st_condT rfl ?_|refine st_condF rfl ?_|refine st_nil ?_|refine st_dnil ?_|refine st_tN ?_|refine st_seq ?_|refine st_block ?_|refine st_skip ?_|refine st_ret ?_|refine st_tR ?_|refine st_bR ?_)
    all_goals try (exfalso;omega)
    all_goals
      simp (disch:=omega) only[AEnd,Try.results73,aresK,fin,go_sem,↓reduceIte,reduceEqDiff,reduceAdd,reduceLeDiff,if_yes,if_no,implies_true,true_and,and_true,List.reverse_cons,List.reverse_nil]
      exact .inl ⟨_,le_nilb 4 false,pvdA_none rfl hP⟩
  rw [decide_eq_true hin] at k1
  obtain ⟨Q,hQ⟩:∃ Q:Nat,r.st=Q:=⟨r.st.toNat,by omega⟩
  have hQr:Q < s.length:=by omega
  have hget:=ivs_getD (l:=s) (i:=Q) hQr
  have hne:¬ elt s Q=0:=fun e=>hc ⟨by omega,by omega,by rw [hQ];exact e⟩
  rw [hQ] at k1 d3 d2 d1
  refine ACalls.of tab mixed Try.call73 Try.func73 rfl (fi:=⟨115,[10],[4],none,[(3,[0,1,3,0,8,0,39,127],[(0,false),(1,false),(2,true),(3,false),(4,false),(5,false),(6,false),(7,false)]),(10,[0,0,0,0,8,30,0,64,254,510,1022,0,2048,0,8192,30720,63488,131070,63,524287],[(0,false),(1,true),(2,false),(3,false),(4,true),(6,false),(7,true),(11,false),(12,true),(13,false),(14,true),(15,false),(16,true),(5,false),(8,false),(9,false),(10,true),(17,false),(18,false),(19,false)]),(14,[0,0,0,0,8,28,0,127,255,511,511,1023,4095],[(0,true),(1,false),(2,false),(3,false),(4,true),(6,false),(5,false),(7,false),(8,false),(9,false),(10,false),(11,false),(12,false)]),(17,[0,0,0,0,8,28,0,127,255,255,1023,2047],[(0,true),(1,false),(2,false),(3,false),(4,true),(6,false),(5,false),(7,false),(8,false),(9,false),(10,false),(11,false)])]⟩) rfl rfl (Nat.le_of_ble_eq_true rfl) (by decide) ?_
  unfold startA
  unfold Tw.cells
  repeat' (first|refine st_seq_reg rfl (by first|(simp only[go_sem,length_map,List.map_cons,List.length_cons,List.getD_cons_zero,Int.toNat_zero,d3,d2,d1,tail_row,hQ,hget];rfl)|rfl) (by first|(simp only[go_sem,length_map,List.map_cons,List.length_cons,List.getD_cons_zero,Int.toNat_zero,d3,d2,d1,tail_row,hQ,hget];rfl)|rfl) ?_|refine st_seq_draw rfl (by first|(simp only[go_sem,length_map,List.map_cons,List.length_cons,List.getD_cons_zero,Int.toNat_zero,d3,d2,d1,tail_row,hQ,hget];rfl)|rfl) (by first|(simp only[go_sem,length_map,List.map_cons,List.length_cons,List.getD_cons_zero,Int.toNat_zero,d3,d2,d1,tail_row,hQ,hget];rfl)|rfl) ?_|refine st_op ?_|refine st_det rfl (by simp (disch:=omega) only[go_sem,wr_i64,if_yes,if_no,↓reduceIte,reduceAdd,reduceMul,reduceEqDiff,Nat.reduceBEq,reduceLeDiff,length_map,List.map_cons,List.length_cons,List.getD_cons_zero,Int.toNat_zero,d3,d2,d1,tail_row,hQ,hget];rfl) ?_|refine st_dop rfl ?_|refine st_loc rfl (by simp (disch:=omega) only[go_sem,wr_i64,if_yes,if_no,↓reduceIte,reduceAdd,reduceMul,reduceEqDiff,Nat.reduceBEq,reduceLeDiff,length_map,List.map_cons,List.length_cons,List.getD_cons_zero,Int.toNat_zero,d3,d2,d1,tail_row,hQ,hget];rfl) ?_|refine st_store (by simp (disch:=omega) only[go_sem,wr_i64,if_yes,if_no,↓reduceIte,reduceAdd,reduceMul,reduceEqDiff,Nat.reduceBEq,reduceLeDiff,length_map,List.map_cons,List.length_cons,List.getD_cons_zero,Int.toNat_zero,d3,d2,d1,tail_row,hQ,hget];rfl) ?_|(refine st_pureE (by first|(simp (disch:=omega) only[go_sem,length_map,List.map_cons,List.length_cons,List.getD_cons_zero,Int.toNat_zero,d3,d2,d1,tail_row,hQ,hget];rfl)|rfl) rfl (k1) (by first|(simp only[go_sem,length_map,List.map_cons,List.length_cons,List.getD_cons_zero,Int.toNat_zero,d3,d2,d1,tail_row,hQ,hget];rfl)|rfl) (by intro n;first|(simp (disch:=omega) only[go_sem];rfl)|rfl) ?_;intro n hn)|refine st_gT rfl rfl rfl ?_|refine st_condT rfl ?_|refine st_condF rfl ?_|(refine st_condS rfl ?_ ?_ <;> intro hg <;> (try simp only[decide_eq_true_eq,decide_eq_false_iff_not,Bool.not_eq_true',Bool.not_eq_false'] at hg))|refine st_nil ?_|refine st_dnil ?_|refine st_tN ?_|refine st_seq ?_|refine st_block ?_|refine st_skip ?_|refine st_ret ?_|refine st_tR ?_|refine st_bR ?_)
  all_goals try (exfalso;omega)
  all_goals
    simp (disch:=omega) only[AEnd,Try.results73,aresK,fin,go_sem,↓reduceIte,reduceEqDiff,reduceAdd,reduceLeDiff,if_yes,if_no,implies_true,true_and,and_true,List.reverse_cons,List.reverse_nil]
    exact .inl ⟨_,le_nilb 4 false,pvdA_none rfl hP⟩
theorem w73_split (t:Tw) (most:Int) (k:Nat) (s:List Int) (r:Rn) (q:List Rn) (hT:TwOk t) (hp:(r :: q).length≤1000000) (hsl:s.length=t.sts.length) (h3:¬ r=⟨3,0,0,0⟩) (h2:¬ (r.kind=2∧r.st=0)) (h1:r.kind=1∧r.sq=0∧r.step=0) {Q:Nat} (hQ:r.st=Q) (hQr:Q < s.length) (hz:elt s Q=0)
    (ih:∀ (w:Int) (q':List Rn),w ≠ 0→q'.length≤1000000→W73 t most k (s.set Q w) q') (hpl:∀ {q':List Rn},pvd t most k (s.set Q 1) q=some q'→q'.length≤1000000):W73 t most (k+1) s (r :: q):=by
  have hsn:=hT.sn
  have ht0:t.av=.agg t.cells:=rfl
  rw [List.length_cons] at hp
  have hP:pvd t most (k+1) s (r :: q)=match pvd t most k (s.set Q 1) q with
      | none=>none
      | some r2=>pvd t most k (s.set Q 2) r2:=by
    show (if r=⟨3,0,0,0⟩ then _ else if _ then _ else if _ then (if _ then _ else _) else _)=_;rw [if_neg h3,if_neg h2,if_pos h1,hQ,if_pos ⟨by omega,by omega,hz⟩];rfl
  have d3:decide ([(IntKind.i64,r.kind),(.i64,r.st),(.i64,r.sq),(.i64,r.step)]=[(IntKind.i64,(3:Int)),(.i64,0),(.i64,0),(.i64,0)])=false:=decide_eq_false (fun e=>h3 ((rn_eq3 r).1 e))
  have d2:decide ([(IntKind.i64,r.kind),(.i64,r.st),(.i64,r.sq),(.i64,r.step)]=[(IntKind.i64,(2:Int)),(.i64,0),(.i64,r.sq),(.i64,r.step)])=false:=decide_eq_false (fun e=>h2 ((rn_eq2 r).1 e))
  have d1:decide ([(IntKind.i64,r.kind),(.i64,r.st),(.i64,r.sq),(.i64,r.step)]=[(IntKind.i64,(1:Int)),(.i64,r.st),(.i64,0),(.i64,0)])=true:=decide_eq_true ((rn_eq1 r).2 h1)
  have k1:=c65 r.st 0 (s.length - 1:Int)
  rw [decide_eq_true (by omega)] at k1
  have hget:=ivs_getD (l:=s) (i:=Q) hQr
  rw [hz] at hget
  rw [hQ] at k1 d3 d2 d1
  have w1:=c98 s Q 1 (by omega) hQr
  have w2:=c98 s Q 2 (by omega) hQr
  have i1:=ih 1 q (by decide) (by omega)
  unfold W73 at i1 ⊢
  unfold pvdA at i1
  cases hv1:pvd t most k (s.set Q 1) q with
  | none =>
    rw [hv1] at i1 hP
    dsimp only at i1 hP
    refine Pure.give Try.call73 fun h hall=>?_
    rw [ht0]
    refine ACalls.of tab mixed Try.call73 Try.func73 rfl (fi:=⟨115,[10],[4],none,[(3,[0,1,3,0,8,0,39,127],[(0,false),(1,false),(2,true),(3,false),(4,false),(5,false),(6,false),(7,false)]),(10,[0,0,0,0,8,30,0,64,254,510,1022,0,2048,0,8192,30720,63488,131070,63,524287],[(0,false),(1,true),(2,false),(3,false),(4,true),(6,false),(7,true),(11,false),(12,true),(13,false),(14,true),(15,false),(16,true),(5,false),(8,false),(9,false),(10,true),(17,false),(18,false),(19,false)]),(14,[0,0,0,0,8,28,0,127,255,511,511,1023,4095],[(0,true),(1,false),(2,false),(3,false),(4,true),(6,false),(5,false),(7,false),(8,false),(9,false),(10,false),(11,false),(12,false)]),(17,[0,0,0,0,8,28,0,127,255,255,1023,2047],[(0,true),(1,false),(2,false),(3,false),(4,true),(6,false),(5,false),(7,false),(8,false),(9,false),(10,false),(11,false)])]⟩) rfl rfl (Nat.le_of_ble_eq_true rfl) (by decide) ?_
    unfold startA
    unfold Tw.cells
    repeat' (first|refine st_seq_reg rfl (by first|(simp only[go_sem,length_map,List.map_cons,List.length_cons,List.getD_cons_zero,Int.toNat_zero,d3,d2,d1,tail_row,hQ,hget];rfl)|rfl) (by first|(simp only[go_sem,length_map,List.map_cons,List.length_cons,List.getD_cons_zero,Int.toNat_zero,d3,d2,d1,tail_row,hQ,hget];rfl)|rfl) ?_|refine st_seq_draw rfl (by first|(simp only[go_sem,length_map,List.map_cons,List.length_cons,List.getD_cons_zero,Int.toNat_zero,d3,d2,d1,tail_row,hQ,hget];rfl)|rfl) (by first|(simp only[go_sem,length_map,List.map_cons,List.length_cons,List.getD_cons_zero,Int.toNat_zero,d3,d2,d1,tail_row,hQ,hget];rfl)|rfl) ?_|refine st_op ?_|refine st_det rfl (by simp (disch:=omega) only[go_sem,wr_i64,if_yes,if_no,↓reduceIte,reduceAdd,reduceMul,reduceEqDiff,Nat.reduceBEq,reduceLeDiff,length_map,List.map_cons,List.length_cons,List.getD_cons_zero,Int.toNat_zero,d3,d2,d1,tail_row,hQ,hget];rfl) ?_|refine st_dop rfl ?_|refine st_loc rfl (by simp (disch:=omega) only[go_sem,wr_i64,if_yes,if_no,↓reduceIte,reduceAdd,reduceMul,reduceEqDiff,Nat.reduceBEq,reduceLeDiff,length_map,List.map_cons,List.length_cons,List.getD_cons_zero,Int.toNat_zero,d3,d2,d1,tail_row,hQ,hget];rfl) ?_|refine st_store (by simp (disch:=omega) only[go_sem,wr_i64,if_yes,if_no,↓reduceIte,reduceAdd,reduceMul,reduceEqDiff,Nat.reduceBEq,reduceLeDiff,length_map,List.map_cons,List.length_cons,List.getD_cons_zero,Int.toNat_zero,d3,d2,d1,tail_row,hQ,hget];rfl) ?_|(refine st_pureE (by first|(simp (disch:=omega) only[go_sem,length_map,List.map_cons,List.length_cons,List.getD_cons_zero,Int.toNat_zero,d3,d2,d1,tail_row,hQ,hget];rfl)|rfl) rfl (k1) (by first|(simp only[go_sem,length_map,List.map_cons,List.length_cons,List.getD_cons_zero,Int.toNat_zero,d3,d2,d1,tail_row,hQ,hget];rfl)|rfl) (by intro n;first|(simp (disch:=omega) only[go_sem];rfl)|rfl) ?_;intro n hn)|(refine st_pureE (by first|(simp (disch:=omega) only[go_sem,length_map,List.map_cons,List.length_cons,List.getD_cons_zero,Int.toNat_zero,d3,d2,d1,tail_row,hQ,hget];rfl)|rfl) rfl (w1) (by first|(simp only[go_sem,length_map,List.map_cons,List.length_cons,List.getD_cons_zero,Int.toNat_zero,d3,d2,d1,tail_row,hQ,hget];rfl)|rfl) (by intro n;first|(simp (disch:=omega) only[go_sem];rfl)|rfl) ?_;intro n hn)|(refine st_pure (by first|(simp (disch:=omega) only[go_sem,length_map,List.map_cons,List.length_cons,List.getD_cons_zero,Int.toNat_zero,d3,d2,d1,tail_row,hQ,hget];rfl)|rfl) rfl (i1) (by first|(simp only[go_sem,length_map,List.map_cons,List.length_cons,List.getD_cons_zero,Int.toNat_zero,d3,d2,d1,tail_row,hQ,hget];rfl)|rfl) (by intro n;first|(simp (disch:=omega) only[go_sem];rfl)|rfl) ?_;rintro v n ⟨q',rfl⟩ hn)|refine st_gT rfl rfl rfl ?_|refine st_condT rfl ?_|refine st_condF rfl ?_|refine st_nil ?_|refine st_dnil ?_|refine st_tN ?_|refine st_seq ?_|refine st_block ?_|refine st_skip ?_|refine st_ret ?_|refine st_tR ?_|refine st_bR ?_)
    all_goals try (exfalso;omega)
    all_goals
      simp (disch:=omega) only[AEnd,Try.results73,aresK,fin,go_sem,↓reduceIte,reduceEqDiff,reduceAdd,reduceLeDiff,if_yes,if_no,implies_true,true_and,and_true,List.reverse_cons,List.reverse_nil]
      exact .inl ⟨_,le_nilb 4 false,pvdA_none rfl hP⟩
  | some q2 =>
    have i2:=ih 2 q2 (by decide) (hpl hv1)
    rw [hv1] at i1 hP
    dsimp only at i1 hP
    unfold W73 pvdA at i2
    refine Pure.give Try.call73 fun h hall=>?_
    rw [ht0]
    cases hv2:pvd t most k (s.set Q 2) q2 with
    | none =>
      rw [hv2] at i2
      dsimp only at i2
      refine ACalls.of tab mixed Try.call73 Try.func73 rfl (fi:=⟨115,[10],[4],none,[(3,[0,1,3,0,8,0,39,127],[(0,false),(1,false),(2,true),(3,false),(4,false),(5,false),(6,false),(7,false)]),(10,[0,0,0,0,8,30,0,64,254,510,1022,0,2048,0,8192,30720,63488,131070,63,524287],[(0,false),(1,true),(2,false),(3,false),(4,true),(6,false),(7,true),(11,false),(12,true),(13,false),(14,true),(15,false),(16,true),(5,false),(8,false),(9,false),(10,true),(17,false),(18,false),(19,false)]),(14,[0,0,0,0,8,28,0,127,255,511,511,1023,4095],[(0,true),(1,false),(2,false),(3,false),(4,true),(6,false),(5,false),(7,false),(8,false),(9,false),(10,false),(11,false),(12,false)]),(17,[0,0,0,0,8,28,0,127,255,255,1023,2047],[(0,true),(1,false),(2,false),(3,false),(4,true),(6,false),(5,false),(7,false),(8,false),(9,false),(10,false),(11,false)])]⟩) rfl rfl (Nat.le_of_ble_eq_true rfl) (by decide) ?_
      unfold startA
      unfold Tw.cells
      repeat' (first|refine st_seq_reg rfl (by first|(simp only[go_sem,length_map,List.map_cons,List.length_cons,List.getD_cons_zero,Int.toNat_zero,d3,d2,d1,tail_row,hQ,hget];rfl)|rfl) (by first|(simp only[go_sem,length_map,List.map_cons,List.length_cons,List.getD_cons_zero,Int.toNat_zero,d3,d2,d1,tail_row,hQ,hget];rfl)|rfl) ?_|refine st_seq_draw rfl (by first|(simp only[go_sem,length_map,List.map_cons,List.length_cons,List.getD_cons_zero,Int.toNat_zero,d3,d2,d1,tail_row,hQ,hget];rfl)|rfl) (by first|(simp only[go_sem,length_map,List.map_cons,List.length_cons,List.getD_cons_zero,Int.toNat_zero,d3,d2,d1,tail_row,hQ,hget];rfl)|rfl) ?_|refine st_op ?_|refine st_det rfl (by simp (disch:=omega) only[go_sem,wr_i64,if_yes,if_no,↓reduceIte,reduceAdd,reduceMul,reduceEqDiff,Nat.reduceBEq,reduceLeDiff,length_map,List.map_cons,List.length_cons,List.getD_cons_zero,Int.toNat_zero,d3,d2,d1,tail_row,hQ,hget];rfl) ?_|refine st_dop rfl ?_|refine st_loc rfl (by simp (disch:=omega) only[go_sem,wr_i64,if_yes,if_no,↓reduceIte,reduceAdd,reduceMul,reduceEqDiff,Nat.reduceBEq,reduceLeDiff,length_map,List.map_cons,List.length_cons,List.getD_cons_zero,Int.toNat_zero,d3,d2,d1,tail_row,hQ,hget];rfl) ?_|refine st_store (by simp (disch:=omega) only[go_sem,wr_i64,if_yes,if_no,↓reduceIte,reduceAdd,reduceMul,reduceEqDiff,Nat.reduceBEq,reduceLeDiff,length_map,List.map_cons,List.length_cons,List.getD_cons_zero,Int.toNat_zero,d3,d2,d1,tail_row,hQ,hget];rfl) ?_|(refine st_pureE (by first|(simp (disch:=omega) only[go_sem,length_map,List.map_cons,List.length_cons,List.getD_cons_zero,Int.toNat_zero,d3,d2,d1,tail_row,hQ,hget];rfl)|rfl) rfl (k1) (by first|(simp only[go_sem,length_map,List.map_cons,List.length_cons,List.getD_cons_zero,Int.toNat_zero,d3,d2,d1,tail_row,hQ,hget];rfl)|rfl) (by intro n;first|(simp (disch:=omega) only[go_sem];rfl)|rfl) ?_;intro n hn)|(refine st_pureE (by first|(simp (disch:=omega) only[go_sem,length_map,List.map_cons,List.length_cons,List.getD_cons_zero,Int.toNat_zero,d3,d2,d1,tail_row,hQ,hget];rfl)|rfl) rfl (w1) (by first|(simp only[go_sem,length_map,List.map_cons,List.length_cons,List.getD_cons_zero,Int.toNat_zero,d3,d2,d1,tail_row,hQ,hget];rfl)|rfl) (by intro n;first|(simp (disch:=omega) only[go_sem];rfl)|rfl) ?_;intro n hn)|(refine st_pureE (by first|(simp (disch:=omega) only[go_sem,length_map,List.map_cons,List.length_cons,List.getD_cons_zero,Int.toNat_zero,d3,d2,d1,tail_row,hQ,hget];rfl)|rfl) rfl (i1) (by first|(simp only[go_sem,length_map,List.map_cons,List.length_cons,List.getD_cons_zero,Int.toNat_zero,d3,d2,d1,tail_row,hQ,hget];rfl)|rfl) (by intro n;first|(simp (disch:=omega) only[go_sem];rfl)|rfl) ?_;intro n hn)|(refine st_pureE (by first|(simp (disch:=omega) only[go_sem,length_map,List.map_cons,List.length_cons,List.getD_cons_zero,Int.toNat_zero,d3,d2,d1,tail_row,hQ,hget];rfl)|rfl) rfl (w2) (by first|(simp only[go_sem,length_map,List.map_cons,List.length_cons,List.getD_cons_zero,Int.toNat_zero,d3,d2,d1,tail_row,hQ,hget];rfl)|rfl) (by intro n;first|(simp (disch:=omega) only[go_sem];rfl)|rfl) ?_;intro n hn)|(refine st_pure (by first|(simp (disch:=omega) only[go_sem,length_map,List.map_cons,List.length_cons,List.getD_cons_zero,Int.toNat_zero,d3,d2,d1,tail_row,hQ,hget];rfl)|rfl) rfl (i2) (by first|(simp only[go_sem,length_map,List.map_cons,List.length_cons,List.getD_cons_zero,Int.toNat_zero,d3,d2,d1,tail_row,hQ,hget];rfl)|rfl) (by intro n;first|(simp (disch:=omega) only[go_sem];rfl)|rfl) ?_;rintro v n ⟨q',rfl⟩ hn)|refine st_gT rfl rfl rfl ?_|refine st_condT rfl ?_|refine st_condF rfl ?_|refine st_nil ?_|refine st_dnil ?_|refine st_tN ?_|refine st_seq ?_|refine st_block ?_|refine st_skip ?_|refine st_ret ?_|refine st_tR ?_|refine st_bR ?_)
      all_goals try (exfalso;omega)
      all_goals
        simp (disch:=omega) only[AEnd,Try.results73,aresK,fin,go_sem,↓reduceIte,reduceEqDiff,reduceAdd,reduceLeDiff,if_yes,if_no,implies_true,true_and,and_true,List.reverse_cons,List.reverse_nil]
        exact .inl ⟨_,VLe.refl _,by unfold pvdA;rw [hP,hv2];exact ⟨_,rfl⟩⟩
    | some q3 =>
      rw [hv2] at i2
      dsimp only at i2
      refine ACalls.of tab mixed Try.call73 Try.func73 rfl (fi:=⟨115,[10],[4],none,[(3,[0,1,3,0,8,0,39,127],[(0,false),(1,false),(2,true),(3,false),(4,false),(5,false),(6,false),(7,false)]),(10,[0,0,0,0,8,30,0,64,254,510,1022,0,2048,0,8192,30720,63488,131070,63,524287],[(0,false),(1,true),(2,false),(3,false),(4,true),(6,false),(7,true),(11,false),(12,true),(13,false),(14,true),(15,false),(16,true),(5,false),(8,false),(9,false),(10,true),(17,false),(18,false),(19,false)]),(14,[0,0,0,0,8,28,0,127,255,511,511,1023,4095],[(0,true),(1,false),(2,false),(3,false),(4,true),(6,false),(5,false),(7,false),(8,false),(9,false),(10,false),(11,false),(12,false)]),(17,[0,0,0,0,8,28,0,127,255,255,1023,2047],[(0,true),(1,false),(2,false),(3,false),(4,true),(6,false),(5,false),(7,false),(8,false),(9,false),(10,false),(11,false)])]⟩) rfl rfl (Nat.le_of_ble_eq_true rfl) (by decide) ?_
      unfold startA
      unfold Tw.cells
      repeat' (first|refine st_seq_reg rfl (by first|(simp only[go_sem,length_map,List.map_cons,List.length_cons,List.getD_cons_zero,Int.toNat_zero,d3,d2,d1,tail_row,hQ,hget];rfl)|rfl) (by first|(simp only[go_sem,length_map,List.map_cons,List.length_cons,List.getD_cons_zero,Int.toNat_zero,d3,d2,d1,tail_row,hQ,hget];rfl)|rfl) ?_|refine st_seq_draw rfl (by first|(simp only[go_sem,length_map,List.map_cons,List.length_cons,List.getD_cons_zero,Int.toNat_zero,d3,d2,d1,tail_row,hQ,hget];rfl)|rfl) (by first|(simp only[go_sem,length_map,List.map_cons,List.length_cons,List.getD_cons_zero,Int.toNat_zero,d3,d2,d1,tail_row,hQ,hget];rfl)|rfl) ?_|refine st_op ?_|refine st_det rfl (by simp (disch:=omega) only[go_sem,wr_i64,if_yes,if_no,↓reduceIte,reduceAdd,reduceMul,reduceEqDiff,Nat.reduceBEq,reduceLeDiff,length_map,List.map_cons,List.length_cons,List.getD_cons_zero,Int.toNat_zero,d3,d2,d1,tail_row,hQ,hget];rfl) ?_|refine st_dop rfl ?_|refine st_loc rfl (by simp (disch:=omega) only[go_sem,wr_i64,if_yes,if_no,↓reduceIte,reduceAdd,reduceMul,reduceEqDiff,Nat.reduceBEq,reduceLeDiff,length_map,List.map_cons,List.length_cons,List.getD_cons_zero,Int.toNat_zero,d3,d2,d1,tail_row,hQ,hget];rfl) ?_|refine st_store (by simp (disch:=omega) only[go_sem,wr_i64,if_yes,if_no,↓reduceIte,reduceAdd,reduceMul,reduceEqDiff,Nat.reduceBEq,reduceLeDiff,length_map,List.map_cons,List.length_cons,List.getD_cons_zero,Int.toNat_zero,d3,d2,d1,tail_row,hQ,hget];rfl) ?_|(refine st_pureE (by first|(simp (disch:=omega) only[go_sem,length_map,List.map_cons,List.length_cons,List.getD_cons_zero,Int.toNat_zero,d3,d2,d1,tail_row,hQ,hget];rfl)|rfl) rfl (k1) (by first|(simp only[go_sem,length_map,List.map_cons,List.length_cons,List.getD_cons_zero,Int.toNat_zero,d3,d2,d1,tail_row,hQ,hget];rfl)|rfl) (by intro n;first|(simp (disch:=omega) only[go_sem];rfl)|rfl) ?_;intro n hn)|(refine st_pureE (by first|(simp (disch:=omega) only[go_sem,length_map,List.map_cons,List.length_cons,List.getD_cons_zero,Int.toNat_zero,d3,d2,d1,tail_row,hQ,hget];rfl)|rfl) rfl (w1) (by first|(simp only[go_sem,length_map,List.map_cons,List.length_cons,List.getD_cons_zero,Int.toNat_zero,d3,d2,d1,tail_row,hQ,hget];rfl)|rfl) (by intro n;first|(simp (disch:=omega) only[go_sem];rfl)|rfl) ?_;intro n hn)|(refine st_pureE (by first|(simp (disch:=omega) only[go_sem,length_map,List.map_cons,List.length_cons,List.getD_cons_zero,Int.toNat_zero,d3,d2,d1,tail_row,hQ,hget];rfl)|rfl) rfl (i1) (by first|(simp only[go_sem,length_map,List.map_cons,List.length_cons,List.getD_cons_zero,Int.toNat_zero,d3,d2,d1,tail_row,hQ,hget];rfl)|rfl) (by intro n;first|(simp (disch:=omega) only[go_sem];rfl)|rfl) ?_;intro n hn)|(refine st_pureE (by first|(simp (disch:=omega) only[go_sem,length_map,List.map_cons,List.length_cons,List.getD_cons_zero,Int.toNat_zero,d3,d2,d1,tail_row,hQ,hget];rfl)|rfl) rfl (w2) (by first|(simp only[go_sem,length_map,List.map_cons,List.length_cons,List.getD_cons_zero,Int.toNat_zero,d3,d2,d1,tail_row,hQ,hget];rfl)|rfl) (by intro n;first|(simp (disch:=omega) only[go_sem];rfl)|rfl) ?_;intro n hn)|(refine st_pureE (by first|(simp (disch:=omega) only[go_sem,length_map,List.map_cons,List.length_cons,List.getD_cons_zero,Int.toNat_zero,d3,d2,d1,tail_row,hQ,hget];rfl)|rfl) rfl (i2) (by first|(simp only[go_sem,length_map,List.map_cons,List.length_cons,List.getD_cons_zero,Int.toNat_zero,d3,d2,d1,tail_row,hQ,hget];rfl)|rfl) (by intro n;first|(simp (disch:=omega) only[go_sem];rfl)|rfl) ?_;intro n hn)|refine st_gT rfl rfl rfl ?_|refine st_condT rfl ?_|refine st_condF rfl ?_|refine st_nil ?_|refine st_dnil ?_|refine st_tN ?_|refine st_seq ?_|refine st_block ?_|refine st_skip ?_|refine st_ret ?_|refine st_tR ?_|refine st_bR ?_)
      all_goals try (exfalso;omega)
      all_goals
        simp (disch:=omega) only[AEnd,Try.results73,aresK,fin,go_sem,↓reduceIte,reduceEqDiff,reduceAdd,reduceLeDiff,if_yes,if_no,implies_true,true_and,and_true,List.reverse_cons,List.reverse_nil]
        exact .inl ⟨_,VLe.refl _,by unfold pvdA;rw [hP,hv2]⟩
theorem pvd_len {t:Tw} {most:Int}:∀ (k:Nat) (s:List Int) (p:List Rn) {r:List Rn},pvd t most k s p=some r→r.length≤p.length
  | 0,_,_,_,h=>by cases h
  | _+1,_,[],_,h=>by cases h
  | k+1,s,a :: q,r,h=>by
    rw [List.length_cons]
    have h:(if a=⟨3,0,0,0⟩ then (if most < shN s then some q else none)
      else if a.kind=2∧a.st=0 then (if 0≤a.sq∧a.sq < t.rooms.length∧0≤a.step∧a.step≤t.steps∧elt t.rooms a.sq.toNat < ldHi t (elt s) a.sq a.step then some q else none)
      else if a.kind=1∧a.sq=0∧a.step=0 then
        (if 0≤a.st∧a.st < t.sts.length∧elt s a.st.toNat=0 then match pvd t most k (s.set a.st.toNat 1) q with
          | none=>none
          | some r2=>pvd t most k (s.set a.st.toNat 2) r2
         else none)
      else none)=some r:=h
    split at h
    · split at h
      · cases h;omega
      · cases h
    split at h
    · split at h
      · cases h;omega
      · cases h
    split at h
    · split at h
      · split at h
        · cases h
        · rename_i r2 hr2
          have e1:=pvd_len k _ _ hr2
          have e2:=pvd_len k _ _ h
          omega
      · cases h
    · cases h
theorem c73 (t:Tw) (most:Int) (hT:TwOk t):∀ (k:Nat) (s:List Int) (p:List Rn),s.length=t.sts.length→cntZ s < k→p.length≤1000000→W73 t most k s p:=by
  intro k
  induction k with
  | zero=>intro s p _ hc;exact absurd hc (Nat.not_lt_zero _)
  | succ k ih =>
    intro s p hsl hcz hp
    match p,hp with
    | [],_=>exact w73_end t most k s
    | r :: q,hp =>
      by_cases h3:r=⟨3,0,0,0⟩
      · exact w73_many t most k s r q hT hp hsl h3
      by_cases h2:r.kind=2∧r.st=0
      · exact w73_full t most k s r q hT hp hsl h3 h2
      by_cases h1:r.kind=1∧r.sq=0∧r.step=0
      case neg=>exact w73_none t most k s r q hp h3 h2 h1
      by_cases hc:0≤r.st∧r.st < t.sts.length∧elt s r.st.toNat=0
      case neg=>exact w73_bad t most k s r q hT hp hsl h3 h2 h1 hc
      have hpq:q.length≤1000000:=by rw [List.length_cons] at hp;omega
      exact w73_split t most k s r q hT hp hsl h3 h2 h1 (Q:=r.st.toNat) (by omega) (by omega) hc.2.2 (fun w q' hw hq'=>ih _ q' (by rw [List.length_set];exact hsl) (by have:=cntZ_set s _ w (by omega) hc.2.2 hw;omega) hq') (fun h=>Nat.le_trans (pvd_len k _ _ h) hpq)
end Go.Proofs.Ythjbfdfhblloiaa
