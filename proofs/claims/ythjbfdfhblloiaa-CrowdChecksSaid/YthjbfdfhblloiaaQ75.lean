/- Contracts of functions that the claim reaches: what each call gives, told in our own logic. Conditions: those of each theorem. -/
import Derived.Test.YthjbfdfhblloiaaQ73
import Derived.Test.YthjbfdfhblloiaaQ22
import Derived.Test.YthjbfdfhblloiaaQ14
import Derived.Test.YthjbfdfhblloiaaW11
import Derived.Test.YthjbfdfhblloiaaQ74
import Derived.Test.YthjbfdfhblloiaaW3
open Nat (reduceAdd reduceMul reduceEqDiff reduceLeDiff)
open List (length_map)
set_option linter.all false
set_option linter.unusedSimpArgs false
set_option linter.unusedVariables false
namespace Go.Proofs.Ythjbfdfhblloiaa
open Go.Av
attribute [local irreducible] thenA blockA awp awpOps awpD awp1
set_option maxHeartbeats 8000000
set_option maxRecDepth 20000
def prvV (t:Tw) (M:Nat):AV:=match clo t M with
  | some _=>.tup [.lst 4 [],.int .i64 7]
  | none=>.tup [.lst 4 ((prv t (M:Nat) (t.sts.length+1) (List.replicate t.sts.length 0)).map Rn.row),.int .i64 0]
def proveV (t:Tw) (most:Int):AV:=if chkE t ≠ 0 then .tup [.lst 4 [],.int .i64 (chkE t)] else if ¬ (0≤most∧most≤12) then .tup [.lst 4 [],.int .i64 2] else prvV t most.toNat
theorem ok94_zero (t:Tw) (most:Int):Ok94 t most (List.replicate t.sts.length 0):=⟨by simp,fun i hi=>.inl (by unfold elt;rw [List.getD_eq_getElem?_getD,List.getElem?_replicate];split <;> rfl)⟩
theorem c58 (t:Tw) (most:Int) (h6:chkE t=0→t.sts.length≤6):Pure Try.prog 58 [t.av,.int .i64 most] (fun v=>v=proveV t most):=by
  have k51:=c51 t
  have k68:=c68a 0 12 most
  refine Pure.give Try.call58 fun h hall=>?_
  by_cases h0:chkE t=0
  case neg =>
    refine ACalls.of tab mixed Try.call58 Try.func58 rfl (fi:=⟨33,[],[2,3,17],none,[]⟩) rfl rfl (Nat.le_of_ble_eq_true rfl) (by decide) ?_
    unfold startA
    simp only[go_sem]
    repeat' (first|refine st_seq_reg rfl (by first|(simp only[go_sem];rfl)|rfl) (by first|(simp only[go_sem];rfl)|rfl) ?_|refine st_op ?_|refine st_det rfl (by simp (disch:=omega) only[go_sem,wr_i64,if_yes,if_no,↓reduceIte,reduceAdd,reduceMul,reduceEqDiff,Nat.reduceBEq,reduceLeDiff];rfl) ?_|(refine st_pureE (by first|(simp (disch:=omega) only[go_sem];rfl)|rfl) rfl (k51) (by first|(simp only[go_sem];rfl)|rfl) (by intro n;first|(simp (disch:=omega) only[go_sem];rfl)|rfl) ?_;intro n hn)|(refine st_condS rfl ?_ ?_ <;> intro hg <;> (try simp only[decide_eq_true_eq,decide_eq_false_iff_not,Bool.not_eq_true',Bool.not_eq_false'] at hg))|refine st_nil ?_|refine st_tN ?_|refine st_seq ?_|refine st_skip ?_|refine st_ret ?_|refine st_tR ?_)
    all_goals try (exfalso;omega)
    simp (disch:=omega) only[AEnd,Try.results58,aresK,fin,go_sem,↓reduceIte,reduceEqDiff,reduceAdd,reduceLeDiff,if_yes,if_no,implies_true,true_and,and_true,List.reverse_cons,List.reverse_nil]
    exact .inl ⟨_,le_nil2 _ 4,by unfold proveV;rw [if_pos h0]⟩
  rw [h0] at k51
  have hT:=townOk h0
  have hsn:=hT.sn
  have hs6:=h6 h0
  by_cases h1:0≤most∧most≤12
  case neg =>
    rw [decide_eq_false h1] at k68
    refine ACalls.of tab mixed Try.call58 Try.func58 rfl (fi:=⟨33,[],[2,3,17],none,[]⟩) rfl rfl (Nat.le_of_ble_eq_true rfl) (by decide) ?_
    unfold startA
    simp only[go_sem]
    repeat' (first|refine st_seq_reg rfl (by first|(simp only[go_sem];rfl)|rfl) (by first|(simp only[go_sem];rfl)|rfl) ?_|refine st_op ?_|refine st_det rfl (by simp (disch:=omega) only[go_sem,wr_i64,if_yes,if_no,↓reduceIte,reduceAdd,reduceMul,reduceEqDiff,Nat.reduceBEq,reduceLeDiff];rfl) ?_|(refine st_pureE (by first|(simp (disch:=omega) only[go_sem];rfl)|rfl) rfl (k51) (by first|(simp only[go_sem];rfl)|rfl) (by intro n;first|(simp (disch:=omega) only[go_sem];rfl)|rfl) ?_;intro n hn)|(refine st_pureE (by first|(simp (disch:=omega) only[go_sem];rfl)|rfl) rfl (k68) (by first|(simp only[go_sem];rfl)|rfl) (by intro n;first|(simp (disch:=omega) only[go_sem];rfl)|rfl) ?_;intro n hn)|refine st_condT rfl ?_|refine st_condF rfl ?_|refine st_nil ?_|refine st_tN ?_|refine st_seq ?_|refine st_skip ?_|refine st_ret ?_|refine st_tR ?_)
    all_goals try (exfalso;omega)
    simp (disch:=omega) only[AEnd,Try.results58,aresK,fin,go_sem,↓reduceIte,reduceEqDiff,reduceAdd,reduceLeDiff,if_yes,if_no,implies_true,true_and,and_true,List.reverse_cons,List.reverse_nil]
    exact .inl ⟨_,le_nil2 _ 4,by unfold proveV;rw [if_neg (fun e=>e h0),if_pos h1]⟩
  rw [decide_eq_true h1] at k68
  obtain ⟨M,rfl⟩:∃ m:Nat,most=m:=⟨most.toNat,by omega⟩
  have hE:proveV t (M:Nat)=prvV t M:=by
    unfold proveV;rw [if_neg (fun e=>e h0),if_neg (fun e=>e h1)];rfl
  rw [hE]
  have k85:=c85 t M (by omega) hT
  cases hcl:clo t M with
  | some L =>
    have hV:cloV t M=.tup [.lst 1 (L.map iv),.bool true]:=by unfold cloV;rw [hcl]
    rw [hV] at k85
    refine ACalls.of tab mixed Try.call58 Try.func58 rfl (fi:=⟨33,[],[2,3,17],none,[]⟩) rfl rfl (Nat.le_of_ble_eq_true rfl) (by decide) ?_
    unfold startA
    simp only[go_sem]
    repeat' (first|refine st_seq_reg rfl (by first|(simp only[go_sem];rfl)|rfl) (by first|(simp only[go_sem];rfl)|rfl) ?_|refine st_op ?_|refine st_det rfl (by simp (disch:=omega) only[go_sem,wr_i64,if_yes,if_no,↓reduceIte,reduceAdd,reduceMul,reduceEqDiff,Nat.reduceBEq,reduceLeDiff];rfl) ?_|(refine st_pureE (by first|(simp (disch:=omega) only[go_sem];rfl)|rfl) rfl (k51) (by first|(simp only[go_sem];rfl)|rfl) (by intro n;first|(simp (disch:=omega) only[go_sem];rfl)|rfl) ?_;intro n hn)|(refine st_pureE (by first|(simp (disch:=omega) only[go_sem];rfl)|rfl) rfl (k68) (by first|(simp only[go_sem];rfl)|rfl) (by intro n;first|(simp (disch:=omega) only[go_sem];rfl)|rfl) ?_;intro n hn)|(refine st_pureE (by first|(simp (disch:=omega) only[go_sem];rfl)|rfl) rfl (k85) (by first|(simp only[go_sem];rfl)|rfl) (by intro n;first|(simp (disch:=omega) only[go_sem];rfl)|rfl) ?_;intro n hn)|refine st_condT rfl ?_|refine st_condF rfl ?_|refine st_nil ?_|refine st_tN ?_|refine st_seq ?_|refine st_skip ?_|refine st_ret ?_|refine st_tR ?_)
    all_goals try (exfalso;omega)
    simp (disch:=omega) only[AEnd,Try.results58,aresK,fin,go_sem,↓reduceIte,reduceEqDiff,reduceAdd,reduceLeDiff,if_yes,if_no,implies_true,true_and,and_true,List.reverse_cons,List.reverse_nil]
    exact .inl ⟨_,le_nil2 _ 4,by unfold prvV;rw [hcl]⟩
  | none =>
    have hV:cloV t M=.tup [.nils,.bool false]:=by unfold cloV;rw [hcl]
    rw [hV] at k85
    have hz:=stR_zero t.sts.length
    have hP:prvV t M=.tup [.lst 4 ((prv t (M:Nat) (t.sts.length+1) (List.replicate t.sts.length 0)).map Rn.row),.int .i64 0]:=by unfold prvV;rw [hcl]
    rw [hP]
    obtain ⟨d,hd⟩:∃ d,13≤d:=⟨13,Nat.le_refl _⟩
    refine ACalls.ofS tab Try.call58 Try.func58 rfl (fi:=⟨33,[],[2,3,17],none,[]⟩) rfl rfl (Nat.le_of_ble_eq_true rfl) ?_
    unfold startA
    refine asem_seq (fi:=⟨33,[],[2,3,17],none,[]⟩) tab mixed (by decide) ?_
    repeat' (first|refine st_reg rfl (by first|(simp only[go_sem];rfl)|rfl) (by first|(simp only[go_sem];rfl)|rfl) ?_|refine st_op ?_|refine st_det rfl (by simp (disch:=omega) only[go_sem,wr_i64,if_yes,if_no,↓reduceIte,reduceAdd,reduceMul,reduceEqDiff,Nat.reduceBEq,reduceLeDiff];rfl) ?_|refine st_nil ?_|refine st_tN ?_)
    refine asem_seq (fi:=⟨33,[],[2,3,17],none,[]⟩) tab mixed (by decide) ?_
    repeat' (first|refine st_seq_reg rfl (by first|(simp only[go_sem];rfl)|rfl) (by first|(simp only[go_sem];rfl)|rfl) ?_|refine st_op ?_|refine st_det rfl (by simp (disch:=omega) only[go_sem,wr_i64,if_yes,if_no,↓reduceIte,reduceAdd,reduceMul,reduceEqDiff,Nat.reduceBEq,reduceLeDiff];rfl) ?_|(refine st_pureE (by first|(simp (disch:=omega) only[go_sem];rfl)|rfl) rfl (k51) (by first|(simp only[go_sem];rfl)|rfl) (by intro n;first|(simp (disch:=omega) only[go_sem];rfl)|rfl) ?_;intro n hn)|refine st_condF rfl ?_|refine st_nil ?_|refine st_tN ?_|refine st_skip ?_)
    all_goals try (exfalso;omega)
    simp only[go_sem]
    refine asem_seq (fi:=⟨33,[],[2,3,17],none,[]⟩) tab mixed (by decide) ?_
    repeat' (first|refine st_seq_reg rfl (by first|(simp only[go_sem];rfl)|rfl) (by first|(simp only[go_sem];rfl)|rfl) ?_|refine st_op ?_|refine st_det rfl (by simp (disch:=omega) only[go_sem,wr_i64,if_yes,if_no,↓reduceIte,reduceAdd,reduceMul,reduceEqDiff,Nat.reduceBEq,reduceLeDiff];rfl) ?_|(refine st_pureE (by first|(simp (disch:=omega) only[go_sem];rfl)|rfl) rfl (k68) (by first|(simp only[go_sem];rfl)|rfl) (by intro n;first|(simp (disch:=omega) only[go_sem];rfl)|rfl) ?_;intro n hn)|refine st_condF rfl ?_|refine st_nil ?_|refine st_tN ?_|refine st_skip ?_)
    simp only[go_sem]
    refine asem_seq (fi:=⟨33,[],[2,3,17],none,[]⟩) tab mixed (by decide) ?_
    repeat' (first|refine st_seq_reg rfl (by first|(simp only[go_sem];rfl)|rfl) (by first|(simp only[go_sem];rfl)|rfl) ?_|refine st_op ?_|refine st_det rfl (by simp (disch:=omega) only[go_sem,wr_i64,if_yes,if_no,↓reduceIte,reduceAdd,reduceMul,reduceEqDiff,Nat.reduceBEq,reduceLeDiff];rfl) ?_|(refine st_pureE (by first|(simp (disch:=omega) only[go_sem];rfl)|rfl) rfl (k85) (by first|(simp only[go_sem];rfl)|rfl) (by intro n;first|(simp (disch:=omega) only[go_sem];rfl)|rfl) ?_;intro n hn)|refine st_condF rfl ?_|refine st_nil ?_|refine st_tN ?_|refine st_skip ?_)
    refine asem_seq (fi:=⟨33,[],[2,3,17],none,[]⟩) tab mixed (by decide) ?_
    repeat' (first|refine st_reg rfl (by first|(simp only[go_sem];rfl)|rfl) (by first|(simp only[go_sem];rfl)|rfl) ?_|refine st_op ?_|refine st_heap rfl (by simp (disch:=omega) only[go_sem,wr_i64,if_yes,if_no,↓reduceIte,reduceAdd,reduceMul,reduceEqDiff,Nat.reduceBEq,reduceLeDiff];rfl) ?_|refine st_nil ?_|refine st_tN ?_)
    refine asem_seq (fi:=⟨33,[],[2,3,17],none,[]⟩) tab mixed (by decide) ?_
    repeat' (first|refine st_reg rfl (by first|(simp only[go_sem];rfl)|rfl) (by first|(simp only[go_sem];rfl)|rfl) ?_|refine st_op ?_|refine st_heap rfl (by simp (disch:=omega) only[go_sem,wr_i64,if_yes,if_no,↓reduceIte,reduceAdd,reduceMul,reduceEqDiff,Nat.reduceBEq,reduceLeDiff];rfl) ?_|refine st_nil ?_|refine st_tN ?_)
    refine asem_seq (fi:=⟨33,[],[2,3,17],none,[]⟩) tab mixed (by decide) ?_
    repeat' (first|refine st_reg rfl (by first|(simp only[go_sem];rfl)|rfl) (by first|(simp only[go_sem];rfl)|rfl) ?_|refine st_op ?_|refine st_det rfl (by simp (disch:=omega) only[go_sem,wr_i64,if_yes,if_no,↓reduceIte,reduceAdd,reduceMul,reduceEqDiff,Nat.reduceBEq,reduceLeDiff];rfl) ?_|refine st_store (by simp (disch:=omega) only[go_sem,wr_i64,if_yes,if_no,↓reduceIte,reduceAdd,reduceMul,reduceEqDiff,Nat.reduceBEq,reduceLeDiff];rfl) ?_|refine st_nil ?_|refine st_tN ?_)
    refine ASem.knot (g:=.func 94) (cap:=pcap2 (n+1,9) t (M:Nat)) 10 (d+1) rfl (by simp only[go_sem,↓reduceIte];rfl) ?_
    refine asem_awp (fi:=⟨33,[],[2,3,17],none,[]⟩) tab mixed (by decide) ?_
    simp only[go_sem]
    have h2:(2:Nat) ^ (t.sts.length+1)≤2 ^ 7:=Nat.pow_le_pow_right (by decide) (by omega)
    have hc:=c94 t (M:Nat) (n+1,9) (n+2) hT (Nat.lt_succ_self _) (fun s a b c=>clo_none hT hcl a b c) (t.sts.length+1) d (by omega) (List.replicate t.sts.length 0) [] .nils (((h.tick (n+1+1+1+1+1)).put (n+1,9) (some ⟨1,[[.nils]]⟩)).put (n+1+1,10) none) (ok94_zero t _) (by rw [cntZ_rep];omega) (by show 0+2 ^ (t.sts.length+1) < 4999;omega) (by simp only[go_sem];omega) (by simp only[go_sem,reduceEqDiff,and_false,↓reduceIte] <;> rfl) (.inl ⟨rfl,rfl⟩)
    unfold W94 at hc
    rw [List.nil_append] at hc
    generalize prv t (M:Nat) (t.sts.length+1) (List.replicate t.sts.length 0)=p at *
    repeat' (first|refine st_seq_reg rfl (by first|(simp only[go_sem,hz,length_map];rfl)|rfl) (by first|(simp only[go_sem,hz,length_map];rfl)|rfl) ?_|refine st_op ?_|refine st_det rfl (by simp (disch:=omega) only[go_sem,wr_i64,if_yes,if_no,↓reduceIte,reduceAdd,reduceMul,reduceEqDiff,Nat.reduceBEq,reduceLeDiff,hz,length_map];rfl) ?_|(refine st_call (args:=[.agg (stR (elt (List.replicate t.sts.length 0)))]) rfl (by first|(simp (disch:=omega) only[go_sem,hz];rfl)|(simp (disch:=omega) only[go_sem,hz])) rfl hc ?_;rintro v g1 ⟨rfl,q1,q2,q3,v1,q4,q5⟩)|refine st_condF rfl ?_|refine st_nil ?_|refine st_tN ?_|refine st_seq ?_|refine st_skip ?_)
    simp only[go_sem] at q1 q2 q3
    repeat' (first|refine st_op ?_|refine st_det rfl (by simp (disch:=omega) only[go_sem,wr_i64,if_yes,if_no,↓reduceIte,reduceAdd,reduceMul,reduceEqDiff,Nat.reduceBEq,reduceLeDiff,q4];rfl) ?_|refine st_nil ?_|refine st_ret ?_)
    all_goals try (exfalso;omega)
    simp (disch:=omega) only[AEnd,Try.results58,aresK,fin,go_sem,↓reduceIte,reduceEqDiff,reduceAdd,reduceLeDiff,if_yes,if_no,implies_true,true_and,and_true,List.reverse_cons,List.reverse_nil]
    have e9:∀ b':Bid,b'.1 < h.clk→¬ b'=(n+1,9):=fun b' hb'=>ne_fst hb' (by show h.clk≤n+1;omega)
    have e10:∀ b':Bid,b'.1 < h.clk→¬ b'=(n+1+1,10):=fun b' hb'=>ne_fst hb' (by show h.clk≤n+1+1;omega)
    refine ⟨q5.noL,fun b' hb'=>by rw [q3 b' (e9 b' hb') (by omega),if_neg (e10 b' hb'),if_neg (e9 b' hb')],q2,SlA.ans2 (h:=h) (g:=g1) (R:=fun v=>v=.tup [.lst 4 (p.map Rn.row),.int .i64 0]) (q5.weak (by omega)) rfl⟩
def W67 (t:Tw) (most:Int) (c0 k:Nat) (s:List Int) (q:List Rn) (v:AV) (h:AH):Prop :=
  ACalls Try.prog 67 [t.av,.int .i64 most,.lst 1 (s.map iv),v] h
    (fun r h'=>h.clk≤h'.clk∧h'.lp=h.lp∧(∀ b':Bid,b'.1 < c0→h'.at_ b'=h.at_ b')∧SlA c0 h' r 4 ((q ++ prv t most k s).map Rn.row))
theorem hal67 {c0:Nat} {h:AH} {v:AV} {q:List Rn} (hS:SlA c0 h v 4 (q.map Rn.row)):alen (tt 27) v=some (q.length:Int):=by
  rcases hS with ⟨e1,e⟩|⟨b3,e1,_⟩
  · have e2:q=[]:=by simpa using e
    rw [e1,e2];rfl
  · rw [e1,length_map];rfl
theorem w67_many (t:Tw) (most:Int) (c0 k:Nat) (s:List Int) (q:List Rn) (h:AH) (v:AV) (hT:TwOk t) (hs:Ok94 t most s) (hq:q.length < 4999) (hch:c0≤h.clk) (hS:SlA c0 h v 4 (q.map Rn.row)) (hm:most < shN s):W67 t most c0 (k+1) s q v h:=by
  have hsn:=hT.sn
  have hsl:=hs.len
  have k97:=c97 s (by omega)
  have hnc:=hS.noL
  have hal:=hal67 hS
  have ht0:t.av=.agg t.cells:=rfl
  unfold W67
  rw [prv_many hm]
  refine ACalls.of tab mixed Try.call67 Try.func67 rfl (fi:=⟨66,[],[4,21,39,51],none,[(7,[0,0,2,6,14,0,32,96,224,510,1022,2047,4095],[(0,false),(1,false),(2,false),(3,false),(4,true),(5,false),(6,false),(7,false),(8,true),(9,false),(10,false),(11,false),(12,false)]),(12,[0,0,0,0,12,0,0,0,0,412,0,2044,4095,8191],[(0,true),(1,false),(2,false),(3,false),(5,true),(6,false),(7,false),(8,false),(10,false),(4,false),(9,false),(11,false),(12,false),(13,false)])]⟩) rfl rfl (Nat.le_of_ble_eq_true rfl) (by decide) ?_
  unfold startA
  rw [ht0]
  unfold Tw.cells
  repeat' (first|refine st_seq_reg rfl (by first|(simp only[go_sem,length_map,hal];rfl)|rfl) (by first|(simp only[go_sem,length_map,hal];rfl)|rfl) ?_|refine st_op ?_|refine st_det rfl (by simp (disch:=omega) only[go_sem,wr_i64,if_yes,if_no,↓reduceIte,reduceAdd,reduceMul,reduceEqDiff,Nat.reduceBEq,reduceLeDiff,length_map,hal];rfl) ?_|(refine st_pureE (by first|(simp (disch:=omega) only[go_sem,length_map,hal];rfl)|rfl) rfl (k97) (by first|(simp only[go_sem,length_map,hal];rfl)|rfl) (by intro n;first|(simp (disch:=omega) only[go_sem];rfl)|rfl) ?_;intro n hn)|(refine st_appS (by intro h id x y;simp only[go_sem];rfl) rfl (by simp only[go_sem,length_map,hal];rfl) (by simp only[go_sem,length_map,hal];rfl) (by decide) hS (fun _ _ _=>rfl) (by omega) (by simp only[length_map,List.length_cons,List.length_nil,big,length_map,hal];omega) (by omega) (by omega) ?_;intro v' g' hA)|(refine st_condS rfl ?_ ?_ <;> intro hg <;> (try simp only[decide_eq_true_eq,decide_eq_false_iff_not,Bool.not_eq_true',Bool.not_eq_false'] at hg))|refine st_nil ?_|refine st_tN ?_|refine st_seq ?_|refine st_skip ?_|refine st_ret ?_|refine st_tR ?_)
  all_goals try (exfalso;omega)
  simp (disch:=omega) only[AEnd,Try.results67,aresK,fin,go_sem,↓reduceIte,reduceEqDiff,reduceAdd,reduceLeDiff,if_yes,if_no,implies_true,true_and,and_true,List.reverse_cons,List.reverse_nil]
  exact ⟨hA.nol,by omega,hA.lp,fun b' h1=>hA.old b' h1,by rw [List.map_append];exact hA.sl.to (fun _ _ _ _ _=>rfl) (by simp only[go_sem];omega)⟩
theorem w67_full (t:Tw) (most:Int) (c0 k:Nat) (s:List Int) (q:List Rn) (h:AH) (v:AV) (hT:TwOk t) (hs:Ok94 t most s) (hq:q.length < 4999) (hch:c0≤h.clk) (hS:SlA c0 h v 4 (q.map Rn.row)) (hm:¬ most < shN s) {x:Cr} {l:List Cr} (hx:crL t (elt s)=x :: l):W67 t most c0 (k+1) s q v h:=by
  have hsn:=hT.sn
  have hsl:=hs.len
  have k97:=c97 s (by omega)
  have k91:=c91 t s hT hsl
  have hcl:=crL_len hT (elt s)
  rw [hx] at k91 hcl
  have hnc:=hS.noL
  have hal:=hal67 hS
  have ht0:t.av=.agg t.cells:=rfl
  simp only[List.map_cons] at k91
  rw [List.length_cons] at hcl
  unfold W67
  rw [prv_full hm hx]
  refine ACalls.of tab mixed Try.call67 Try.func67 rfl (fi:=⟨66,[],[4,21,39,51],none,[(7,[0,0,2,6,14,0,32,96,224,510,1022,2047,4095],[(0,false),(1,false),(2,false),(3,false),(4,true),(5,false),(6,false),(7,false),(8,true),(9,false),(10,false),(11,false),(12,false)]),(12,[0,0,0,0,12,0,0,0,0,412,0,2044,4095,8191],[(0,true),(1,false),(2,false),(3,false),(5,true),(6,false),(7,false),(8,false),(10,false),(4,false),(9,false),(11,false),(12,false),(13,false)])]⟩) rfl rfl (Nat.le_of_ble_eq_true rfl) (by decide) ?_
  unfold startA
  rw [ht0]
  unfold Tw.cells
  repeat' (first|refine st_seq_reg rfl (by first|(simp only[go_sem,length_map,List.length_cons,hal,List.getD_cons_zero,Int.toNat_zero];rfl)|rfl) (by first|(simp only[go_sem,length_map,List.length_cons,hal,List.getD_cons_zero,Int.toNat_zero];rfl)|rfl) ?_|refine st_seq_draw rfl (by first|(simp only[go_sem,length_map,List.length_cons,hal,List.getD_cons_zero,Int.toNat_zero];rfl)|rfl) (by first|(simp only[go_sem,length_map,List.length_cons,hal,List.getD_cons_zero,Int.toNat_zero];rfl)|rfl) ?_|refine st_op ?_|refine st_det rfl (by simp (disch:=omega) only[go_sem,wr_i64,if_yes,if_no,↓reduceIte,reduceAdd,reduceMul,reduceEqDiff,Nat.reduceBEq,reduceLeDiff,length_map,List.length_cons,hal,List.getD_cons_zero,Int.toNat_zero];rfl) ?_|refine st_dop rfl ?_|(refine st_pureE (by first|(simp (disch:=omega) only[go_sem,length_map,List.length_cons,hal,List.getD_cons_zero,Int.toNat_zero];rfl)|rfl) rfl (k97) (by first|(simp only[go_sem,length_map,List.length_cons,hal,List.getD_cons_zero,Int.toNat_zero];rfl)|rfl) (by intro n;first|(simp (disch:=omega) only[go_sem];rfl)|rfl) ?_;intro n hn)|(refine st_pureE (by first|(simp (disch:=omega) only[go_sem,length_map,List.length_cons,hal,List.getD_cons_zero,Int.toNat_zero];rfl)|rfl) rfl (k91) (by first|(simp only[go_sem,length_map,List.length_cons,hal,List.getD_cons_zero,Int.toNat_zero];rfl)|rfl) (by intro n;first|(simp (disch:=omega) only[go_sem];rfl)|rfl) ?_;intro n hn)|(refine st_appS (by intro h id x y;simp only[go_sem];rfl) rfl (by simp only[go_sem,length_map,List.length_cons,hal,List.getD_cons_zero,Int.toNat_zero];rfl) (by simp only[go_sem,length_map,List.length_cons,hal,List.getD_cons_zero,Int.toNat_zero];rfl) (by decide) hS (fun _ _ _=>rfl) (by omega) (by simp only[length_map,List.length_cons,List.length_nil,big,length_map,List.length_cons,hal,List.getD_cons_zero,Int.toNat_zero];omega) (by omega) (by omega) ?_;intro v' g' hA)|(refine st_condS rfl ?_ ?_ <;> intro hg <;> (try simp only[decide_eq_true_eq,decide_eq_false_iff_not,Bool.not_eq_true',Bool.not_eq_false'] at hg))|refine st_nil ?_|refine st_dnil ?_|refine st_tN ?_|refine st_seq ?_|refine st_block ?_|refine st_skip ?_|refine st_ret ?_|refine st_tR ?_)
  all_goals try (exfalso;omega)
  simp (disch:=omega) only[AEnd,Try.results67,aresK,fin,go_sem,↓reduceIte,reduceEqDiff,reduceAdd,reduceLeDiff,if_yes,if_no,implies_true,true_and,and_true,List.reverse_cons,List.reverse_nil]
  exact ⟨hA.nol,by omega,hA.lp,fun b' h1=>hA.old b' h1,by rw [List.map_append];exact hA.sl.to (fun _ _ _ _ _=>rfl) (by simp only[go_sem];omega)⟩
theorem w67_split (t:Tw) (most:Int) (c0 k:Nat) (s:List Int) (q:List Rn) (h:AH) (v:AV) (hT:TwOk t) (hs:Ok94 t most s) (hq:q.length < 4999) (hch:c0≤h.clk) (hS:SlA c0 h v 4 (q.map Rn.row)) (hm:¬ most < shN s) (hx:crL t (elt s)=[]) {i:Nat} (hi:i < t.sts.length) (hz:elt s i=0) (hu:und t s=some i) (hqk:q.length+2 ^ (k+1) < 4999)
    (ih:∀ (w:Int) (q':List Rn) (v':AV) (g:AH),(w=1 ∨ w=2)→q'.length+2 ^ k < 4999→c0≤g.clk→SlA c0 g v' 4 (q'.map Rn.row)→W67 t most c0 k (s.set i w) q' v' g):W67 t most c0 (k+1) s q v h:=by
  have hsn:=hT.sn
  have hsl:=hs.len
  have k97:=c97 s (by omega)
  have k91:=c91 t s hT hsl
  rw [hx] at k91
  have w1:=c98 s i 1 (by omega) (by omega)
  have w2:=c98 s i 2 (by omega) (by omega)
  have hpl:=prv_len t most k (s.set i 1)
  have h2k:(2:Nat) ^ (k+1)=2 ^ k * 2:=Nat.pow_succ ..
  have hqc:∀ r:Rn,(q ++ [r]).length=q.length+1:=fun r=>by simp
  have huf:=und_first hu
  have hnc:=hS.noL
  have hal:=hal67 hS
  have ht0:t.av=.agg t.cells:=rfl
  unfold W67 at ih ⊢
  rw [prv_split hm hx hu]
  refine ACalls.of tab mixed Try.call67 Try.func67 rfl (fi:=⟨66,[],[4,21,39,51],none,[(7,[0,0,2,6,14,0,32,96,224,510,1022,2047,4095],[(0,false),(1,false),(2,false),(3,false),(4,true),(5,false),(6,false),(7,false),(8,true),(9,false),(10,false),(11,false),(12,false)]),(12,[0,0,0,0,12,0,0,0,0,412,0,2044,4095,8191],[(0,true),(1,false),(2,false),(3,false),(5,true),(6,false),(7,false),(8,false),(10,false),(4,false),(9,false),(11,false),(12,false),(13,false)])]⟩) rfl rfl (Nat.le_of_ble_eq_true rfl) (by decide) ?_
  unfold startA
  rw [ht0]
  unfold Tw.cells
  repeat' (first|refine st_seq_reg rfl (by first|(simp only[go_sem,length_map,hal];rfl)|rfl) (by first|(simp only[go_sem,length_map,hal];rfl)|rfl) ?_|refine st_op ?_|refine st_det rfl (by simp (disch:=omega) only[go_sem,wr_i64,if_yes,if_no,↓reduceIte,reduceAdd,reduceMul,reduceEqDiff,Nat.reduceBEq,reduceLeDiff,length_map,hal];rfl) ?_|(refine st_pureE (by first|(simp (disch:=omega) only[go_sem,length_map,hal];rfl)|rfl) rfl (k97) (by first|(simp only[go_sem,length_map,hal];rfl)|rfl) (by intro n;first|(simp (disch:=omega) only[go_sem];rfl)|rfl) ?_;intro n hn)|(refine st_pureE (by first|(simp (disch:=omega) only[go_sem,length_map,hal];rfl)|rfl) rfl (k91) (by first|(simp only[go_sem,length_map,hal];rfl)|rfl) (by intro n;first|(simp (disch:=omega) only[go_sem];rfl)|rfl) ?_;intro n hn)|refine st_condF rfl ?_|(refine st_condS rfl ?_ ?_ <;> intro hg <;> (try simp only[decide_eq_true_eq,decide_eq_false_iff_not,Bool.not_eq_true',Bool.not_eq_false'] at hg))|refine st_nil ?_|refine st_tN ?_|refine st_seq ?_|refine st_block ?_|refine st_skip ?_|refine st_ret ?_|refine st_tR ?_)
  all_goals try (exfalso;omega)
  refine st_loopC (α:=Nat) tab mixed [] [] (by repeat (first|exact trivial|refine ⟨rfl,?_⟩)) [] [] (by repeat (first|exact trivial|refine ⟨rfl,?_⟩)) (fun j=>[(10,.int .i64 (j:Nat))]) [(1,_),(2,_),(3,_),(4,_)] (fun _=>[]) [] (fun j=>j≤i) (fun j=>i - j) (by decide) 0 (Nat.zero_le _) (by (try simp only[go_sem]);repeat' (first|exact trivial|refine And.intro ?_ ?_|rfl|(simp (disch:=omega) only[go_sem,if_yes,if_no,↓reduceIte,reduceAdd,reduceMul,reduceEqDiff,Nat.reduceBEq,reduceLeDiff];rfl)|(simp (disch:=omega) only[go_sem,if_yes,if_no,↓reduceIte,reduceAdd,reduceMul,reduceEqDiff,Nat.reduceBEq,reduceLeDiff]))) (by (try simp only[go_sem]);repeat' (first|exact trivial|refine And.intro ?_ ?_|rfl|(simp (disch:=omega) only[go_sem,if_yes,if_no,↓reduceIte,reduceAdd,reduceMul,reduceEqDiff,Nat.reduceBEq,reduceLeDiff];rfl)|(simp (disch:=omega) only[go_sem,if_yes,if_no,↓reduceIte,reduceAdd,reduceMul,reduceEqDiff,Nat.reduceBEq,reduceLeDiff]))) (by first|(simp only[go_sem];rfl)|rfl) (by intro n;simp only[go_sem];rfl) ?_
  rintro j d hj hd
  simp only[go_sem]
  by_cases hji:j < i
  case pos =>
    have hne:=huf j hji
    repeat' (first|refine st_seq_reg rfl (by first|(simp only[go_sem,length_map];rfl)|rfl) (by first|(simp only[go_sem,length_map];rfl)|rfl) ?_|refine st_reg rfl (by first|(simp only[go_sem,length_map];rfl)|rfl) (by first|(simp only[go_sem,length_map];rfl)|rfl) ?_|refine st_op ?_|refine st_det rfl (by simp (disch:=omega) only[go_sem,wr_i64,if_yes,if_no,↓reduceIte,reduceAdd,reduceMul,reduceEqDiff,Nat.reduceBEq,reduceLeDiff,length_map];rfl) ?_|(refine st_condS rfl ?_ ?_ <;> intro hg <;> (try simp only[decide_eq_true_eq,decide_eq_false_iff_not,Bool.not_eq_true',Bool.not_eq_false'] at hg))|refine st_nil ?_|refine st_tN ?_|refine st_seq ?_|refine st_block ?_|refine st_skip ?_|refine st_exit ?_|refine st_tE ?_|refine st_bN ?_|refine st_bH ?_)
    all_goals try (exfalso;omega)
    refine ⟨j+1,by show j+1≤i;omega,by show i - (j+1) < i - j;omega,(by repeat' (first|exact trivial|refine And.intro ?_ ?_|rfl|(simp (disch:=omega) only[go_sem,if_yes,if_no,↓reduceIte,reduceAdd,reduceMul,reduceEqDiff,Nat.reduceBEq,reduceLeDiff];rfl)|(simp (disch:=omega) only[go_sem,if_yes,if_no,↓reduceIte,reduceAdd,reduceMul,reduceEqDiff,Nat.reduceBEq,reduceLeDiff]))),(by repeat' (first|exact trivial|refine And.intro ?_ ?_|rfl|(simp (disch:=omega) only[go_sem,if_yes,if_no,↓reduceIte,reduceAdd,reduceMul,reduceEqDiff,Nat.reduceBEq,reduceLeDiff];rfl)|(simp (disch:=omega) only[go_sem,if_yes,if_no,↓reduceIte,reduceAdd,reduceMul,reduceEqDiff,Nat.reduceBEq,reduceLeDiff]))),rfl,(by first|exact HOld.of _ (by omega)|exact HOld.put _ _ _ (by omega))⟩
  obtain rfl:j=i:=by omega
  repeat' (first|refine st_seq_reg rfl (by first|(simp only[go_sem,length_map,hz];rfl)|rfl) (by first|(simp only[go_sem,length_map,hz];rfl)|rfl) ?_|refine st_seq_draw rfl (by first|(simp only[go_sem,length_map,hz];rfl)|rfl) (by first|(simp only[go_sem,length_map,hz];rfl)|rfl) ?_|refine st_op ?_|refine st_det rfl (by simp (disch:=omega) only[go_sem,wr_i64,if_yes,if_no,↓reduceIte,reduceAdd,reduceMul,reduceEqDiff,Nat.reduceBEq,reduceLeDiff,length_map,hz];rfl) ?_|refine st_dop rfl ?_|(refine st_appS (by intro h id x y;simp only[go_sem];rfl) rfl (by simp only[go_sem,length_map,hz];rfl) (by simp only[go_sem,length_map,hz];rfl) (by decide) hS (fun _ _ _=>rfl) (by omega) (by simp only[length_map,List.length_cons,List.length_nil,big,length_map,hz];omega) (by omega) (by omega) ?_;intro v' g' hA)|(refine st_pureE (by first|(simp (disch:=omega) only[go_sem,length_map,hz];rfl)|rfl) rfl (w2) (by first|(simp only[go_sem,length_map,hz];rfl)|rfl) (by intro n;first|(simp (disch:=omega) only[go_sem];rfl)|rfl) ?_;intro n hn)|(refine st_pureE (by first|(simp (disch:=omega) only[go_sem,length_map,hz];rfl)|rfl) rfl (w1) (by first|(simp only[go_sem,length_map,hz];rfl)|rfl) (by intro n;first|(simp (disch:=omega) only[go_sem];rfl)|rfl) ?_;intro n hn)|refine st_condF rfl ?_|refine st_nil ?_|refine st_tN ?_|refine st_seq ?_|refine st_exit ?_|refine st_tE ?_|refine st_bH ?_)
  all_goals try (exfalso;omega)
  refine st_callf (args:=[t.av,.int .i64 most,.lst 1 ((s.set j 1).map iv),v']) rfl (by simp only[List.all_cons,List.all_nil,Bool.and_true];rw [hA.nol];rfl) (ih 1 (q ++ ([⟨1,((j:Nat):Int),0,0⟩]:List Rn)) v' _ (.inl rfl) (by rw [hqc];omega) (by simp only[go_sem];omega) (by rw [List.map_append];exact hA.sl.to (fun b1 m e h1 h2=>rfl) (by simp only[go_sem];omega))) ?_
  rintro v1 g1 ⟨q1,q2,q3,q4⟩
  simp only[go_sem] at q1 q2 q3
  repeat' (first|refine st_dop rfl ?_)
  refine st_callf (args:=[t.av,.int .i64 most,.lst 1 ((s.set j 2).map iv),v1]) rfl (by simp only[List.all_cons,List.all_nil,Bool.and_true];rw [q4.noL];rfl) (ih 2 (q ++ ([⟨1,((j:Nat):Int),0,0⟩]:List Rn) ++ prv t most k (s.set j 1)) v1 _ (.inr rfl) (by rw [List.length_append,hqc];omega) (show c0≤g1.clk by omega) q4) ?_
  rintro v2 g2 ⟨p1,p2,p3,p4⟩
  try simp only[go_sem] at p1 p2 p3
  have hn2:=p4.noL
  repeat' (first|refine st_det rfl (by simp (disch:=omega) only[go_sem,wr_i64,if_yes,if_no,↓reduceIte,reduceAdd,reduceMul,reduceEqDiff,Nat.reduceBEq,reduceLeDiff,hn2];rfl) ?_|refine st_dop rfl ?_|refine st_dnil ?_|refine st_ret ?_)
  simp (disch:=omega) only[AEnd,Try.results67,aresK,fin,go_sem,↓reduceIte,reduceEqDiff,reduceAdd,reduceLeDiff,if_yes,if_no,implies_true,true_and,and_true,List.reverse_cons,List.reverse_nil]
  exact ⟨hn2,by omega,by rw [p2,q2];exact hA.lp,fun b' h1=>by rw [p3 b' h1,q3 b' h1];exact hA.old b' h1,by rw [show q ++ ⟨1,((j:Nat):Int),0,0⟩ :: (prv t most k (s.set j 1) ++ prv t most k (s.set j 2))=q ++ [⟨1,((j:Nat):Int),0,0⟩] ++ prv t most k (s.set j 1) ++ prv t most k (s.set j 2) by simp];exact p4⟩
theorem c67 (t:Tw) (most:Int) (c0:Nat) (hT:TwOk t)
    (hN:∀ s:List Int,s.length=t.sts.length→(∀ i,i < t.sts.length→elt s i=1 ∨ elt s i=2)→¬ most < shN s→crL t (elt s) ≠ []) :
    ∀ (k:Nat) (s:List Int) (q:List Rn) (v:AV) (h:AH),Ok94 t most s→cntZ s < k→q.length+2 ^ k < 4999→c0≤h.clk→SlA c0 h v 4 (q.map Rn.row)→W67 t most c0 k s q v h:=by
  intro k
  induction k with
  | zero=>intro s q v h _ hc;exact absurd hc (Nat.not_lt_zero _)
  | succ k ih =>
    intro s q v h hs hcz hq hch hS
    have h2k:1≤(2:Nat) ^ (k+1):=Nat.one_le_two_pow
    by_cases hm:most < shN s
    · exact w67_many t most c0 k s q h v hT hs (by omega) hch hS hm
    cases hx:crL t (elt s) with
    | cons x l=>exact w67_full t most c0 k s q h v hT hs (by omega) hch hS hm hx
    | nil =>
      cases hu:und t s with
      | none =>
        refine absurd hx (hN s hs.len (fun i hi=>?_) hm)
        have h1:=hs.val i hi
        have h2:¬ elt s i=0:=fun e=>by
          unfold und at hu
          rw [List.find?_eq_none] at hu
          exact hu i (List.mem_range.2 hi) (decide_eq_true e)
        omega
      | some i =>
        obtain ⟨hi,hz⟩:=und_is hu
        exact w67_split t most c0 k s q h v hT hs (by omega) hch hS hm hx hi hz hu hq fun w q' v' g hw hq' hg1 hg3=>ih _ q' v' g (hs.set hi hw) (by have:=cntZ_set s i w (by rw [hs.len];exact hi) hz (by omega);omega) hq' hg1 hg3
end Go.Proofs.Ythjbfdfhblloiaa
