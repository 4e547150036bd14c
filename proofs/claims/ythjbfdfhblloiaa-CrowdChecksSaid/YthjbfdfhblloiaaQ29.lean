/- Contracts of functions that the claim reaches: what each call gives, told in our own logic. Conditions: those of each theorem. -/
import Derived.Test.YthjbfdfhblloiaaQ22d
import Derived.Test.YthjbfdfhblloiaaQ28
open Nat (reduceAdd reduceMul reduceEqDiff reduceLeDiff)
open List (length_map)
set_option linter.all false
set_option linter.unusedSimpArgs false
set_option linter.unusedVariables false
namespace Go.Proofs.Ythjbfdfhblloiaa
open Go.Av
attribute [local irreducible] thenA blockA awp awpOps awpD awp1
set_option maxHeartbeats 8000000
set_option maxRecDepth 20000
theorem c69 (t:Tw) (most:Int) (p:List Rn) (b:Nat × Nat) (hT:TwOk t) (hp:p.length≤1000000):∀ (k d:Nat),k≤d→∀ (s:List Int) (i:Nat) (h:AH),s.length=t.sts.length→cntZ s < k→i≤p.length→h.at_ b=some ⟨1,[[.int .i64 (i:Nat)]]⟩→b.1 < h.clk→W69 t most p b k d s i h:=by
  intro k
  induction k with
  | zero=>intro d _ s i h _ hc;exact absurd hc (Nat.not_lt_zero _)
  | succ k ih =>
    rintro d hd s i h hsl hcz hi hb hbc
    by_cases hlt:i < p.length
    case neg=>exact w69_end t most p b k d s i h hT hp hsl hb (by omega)
    by_cases h3:rn p i=⟨3,0,0,0⟩
    · exact w69_many t most p b k d s i h hT hp hsl hb hlt h3
    by_cases h2:(rn p i).kind=2∧(rn p i).st=0
    · exact w69_full t most p b k d s i h hT hp hsl hb hlt h3 h2
    by_cases h1:(rn p i).kind=1∧(rn p i).sq=0∧(rn p i).step=0
    case neg=>exact w69_none t most p b k d s i h hT hp hsl hb hlt h3 h2 h1
    by_cases hc:0≤(rn p i).st∧(rn p i).st < t.sts.length∧elt s (rn p i).st.toNat=0
    case neg=>exact w69_bad t most p b k d s i h hT hp hsl hb hlt h3 h2 h1 hc
    obtain ⟨d,rfl⟩:∃ d',d=d'+1:=⟨d - 1,by omega⟩
    have hx:(rn p i).st.toNat < s.length:=by omega
    exact w69_split t most p b k d s i h hT hp hsl hb hlt h3 h2 h1 hc hbc fun v j g hv hj hg hgc=>ih d (by omega) _ j g (by rw [List.length_set];exact hsl) (by have:=cntZ_set s _ v hx hc.2.2 hv;omega) hj hg hgc
def provedB (t:Tw) (most:Int) (p:List Rn):Bool:=decide (pvd t most (t.sts.length+1) (List.replicate t.sts.length 0) p=some [])
def provedV (t:Tw) (most:Int) (p:List Rn):AV:=if chkE t ≠ 0 then .tup [.bool false,.int .i64 (chkE t)] else if ¬ (0≤most∧most≤12) then .tup [.bool false,.int .i64 2] else .tup [.bool (provedB t most p),.int .i64 0]
theorem cntZ_rep:∀ n,cntZ (List.replicate n 0)=n:=fun n=>by unfold cntZ;rw [List.countP_replicate];simp
theorem stR_zero (n:Nat):[AV.int .i64 0,.int .i64 0,.int .i64 0,.int .i64 0,.int .i64 0,.int .i64 0,.int .i64 0,.int .i64 0,.int .i64 0,.int .i64 0,.int .i64 0,.int .i64 0]=stR (elt (List.replicate n 0)):=by
  have:stR (elt (List.replicate n 0))=stR (fun _=>0):=stR_ext fun i _=>by
    unfold elt;rw [List.getD_eq_getElem?_getD,List.getElem?_replicate];split <;> rfl
  rw [this];rfl
theorem c23 (t:Tw) (most:Int) (p:List Rn) (hp:p.length≤1000000):Pure Try.prog 23 [t.av,.int .i64 most,.lst 4 (p.map Rn.row)] (fun v=>v=provedV t most p):=by
  have k51:=c51 t
  have k68:=c68a 0 12 most
  intro h
  by_cases h0:chkE t=0
  case neg =>
    refine ACalls.forget (ACalls.of tab mixed Try.call23 Try.func23 rfl (fi:=⟨30,[],[3,4,5,17],none,[]⟩) rfl rfl (Nat.le_of_ble_eq_true rfl) (by decide) ?_)
    unfold startA
    simp only[go_sem]
    repeat' (first|refine st_seq_reg rfl (by first|(simp only[go_sem];rfl)|rfl) (by first|(simp only[go_sem];rfl)|rfl) ?_|refine st_op ?_|refine st_det rfl (by simp (disch:=omega) only[go_sem,wr_i64,if_yes,if_no,↓reduceIte,reduceAdd,reduceMul,reduceEqDiff,Nat.reduceBEq,reduceLeDiff];rfl) ?_|(refine st_pureE (by first|(simp (disch:=omega) only[go_sem];rfl)|rfl) rfl (k51) (by first|(simp only[go_sem];rfl)|rfl) (by intro n;first|(simp (disch:=omega) only[go_sem];rfl)|rfl) ?_;intro n hn)|(refine st_condS rfl ?_ ?_ <;> intro hg <;> (try simp only[decide_eq_true_eq,decide_eq_false_iff_not,Bool.not_eq_true',Bool.not_eq_false'] at hg))|refine st_nil ?_|refine st_tN ?_|refine st_seq ?_|refine st_skip ?_|refine st_ret ?_|refine st_tR ?_)
    all_goals try (exfalso;omega)
    simp (disch:=omega) only[AEnd,Try.results23,aresK,fin,go_sem,↓reduceIte,reduceEqDiff,reduceAdd,reduceLeDiff,if_yes,if_no,implies_true,true_and,and_true,List.reverse_cons,List.reverse_nil]
    unfold provedV;rw [if_pos h0]
  rw [h0] at k51
  have hT:=townOk h0
  have hsn:=hT.sn
  by_cases h1:0≤most∧most≤12
  case neg =>
    rw [decide_eq_false h1] at k68
    refine ACalls.forget (ACalls.of tab mixed Try.call23 Try.func23 rfl (fi:=⟨30,[],[3,4,5,17],none,[]⟩) rfl rfl (Nat.le_of_ble_eq_true rfl) (by decide) ?_)
    unfold startA
    simp only[go_sem]
    repeat' (first|refine st_seq_reg rfl (by first|(simp only[go_sem];rfl)|rfl) (by first|(simp only[go_sem];rfl)|rfl) ?_|refine st_op ?_|refine st_det rfl (by simp (disch:=omega) only[go_sem,wr_i64,if_yes,if_no,↓reduceIte,reduceAdd,reduceMul,reduceEqDiff,Nat.reduceBEq,reduceLeDiff];rfl) ?_|(refine st_pureE (by first|(simp (disch:=omega) only[go_sem];rfl)|rfl) rfl (k51) (by first|(simp only[go_sem];rfl)|rfl) (by intro n;first|(simp (disch:=omega) only[go_sem];rfl)|rfl) ?_;intro n hn)|(refine st_pureE (by first|(simp (disch:=omega) only[go_sem];rfl)|rfl) rfl (k68) (by first|(simp only[go_sem];rfl)|rfl) (by intro n;first|(simp (disch:=omega) only[go_sem];rfl)|rfl) ?_;intro n hn)|refine st_condT rfl ?_|refine st_condF rfl ?_|refine st_nil ?_|refine st_tN ?_|refine st_seq ?_|refine st_skip ?_|refine st_ret ?_|refine st_tR ?_)
    all_goals try (exfalso;omega)
    simp (disch:=omega) only[AEnd,Try.results23,aresK,fin,go_sem,↓reduceIte,reduceEqDiff,reduceAdd,reduceLeDiff,if_yes,if_no,implies_true,true_and,and_true,List.reverse_cons,List.reverse_nil]
    unfold provedV;rw [if_neg (fun e=>e h0),if_pos h1]
  rw [decide_eq_true h1] at k68
  have hE:provedV t most p=.tup [.bool (provedB t most p),.int .i64 0]:=by
    unfold provedV;rw [if_neg (fun e=>e h0),if_neg (fun e=>e h1)]
  have hz:=stR_zero t.sts.length
  obtain ⟨d,hd⟩:∃ d,13≤d:=⟨13,Nat.le_refl _⟩
  refine ACalls.forget ?_
  refine ACalls.ofS tab Try.call23 Try.func23 rfl (fi:=⟨30,[],[3,4,5,17],none,[]⟩) rfl rfl (Nat.le_of_ble_eq_true rfl) ?_
  unfold startA
  refine asem_seq (fi:=⟨30,[],[3,4,5,17],none,[]⟩) tab mixed (by decide) ?_
  repeat' (first|refine st_reg rfl (by first|(simp only[go_sem];rfl)|rfl) (by first|(simp only[go_sem];rfl)|rfl) ?_|refine st_op ?_|refine st_det rfl (by simp (disch:=omega) only[go_sem,wr_i64,if_yes,if_no,↓reduceIte,reduceAdd,reduceMul,reduceEqDiff,Nat.reduceBEq,reduceLeDiff];rfl) ?_|refine st_nil ?_|refine st_tN ?_)
  refine asem_seq (fi:=⟨30,[],[3,4,5,17],none,[]⟩) tab mixed (by decide) ?_
  repeat' (first|refine st_seq_reg rfl (by first|(simp only[go_sem];rfl)|rfl) (by first|(simp only[go_sem];rfl)|rfl) ?_|refine st_op ?_|refine st_det rfl (by simp (disch:=omega) only[go_sem,wr_i64,if_yes,if_no,↓reduceIte,reduceAdd,reduceMul,reduceEqDiff,Nat.reduceBEq,reduceLeDiff];rfl) ?_|(refine st_pureE (by first|(simp (disch:=omega) only[go_sem];rfl)|rfl) rfl (k51) (by first|(simp only[go_sem];rfl)|rfl) (by intro n;first|(simp (disch:=omega) only[go_sem];rfl)|rfl) ?_;intro n hn)|refine st_condF rfl ?_|refine st_nil ?_|refine st_tN ?_|refine st_skip ?_)
  all_goals try (exfalso;omega)
  simp only[go_sem]
  refine asem_seq (fi:=⟨30,[],[3,4,5,17],none,[]⟩) tab mixed (by decide) ?_
  repeat' (first|refine st_seq_reg rfl (by first|(simp only[go_sem];rfl)|rfl) (by first|(simp only[go_sem];rfl)|rfl) ?_|refine st_op ?_|refine st_det rfl (by simp (disch:=omega) only[go_sem,wr_i64,if_yes,if_no,↓reduceIte,reduceAdd,reduceMul,reduceEqDiff,Nat.reduceBEq,reduceLeDiff];rfl) ?_|(refine st_pureE (by first|(simp (disch:=omega) only[go_sem];rfl)|rfl) rfl (k68) (by first|(simp only[go_sem];rfl)|rfl) (by intro n;first|(simp (disch:=omega) only[go_sem];rfl)|rfl) ?_;intro n hn)|refine st_condF rfl ?_|refine st_nil ?_|refine st_tN ?_|refine st_skip ?_)
  refine asem_seq (fi:=⟨30,[],[3,4,5,17],none,[]⟩) tab mixed (by decide) ?_
  repeat' (first|refine st_reg rfl (by first|(simp only[go_sem];rfl)|rfl) (by first|(simp only[go_sem];rfl)|rfl) ?_|refine st_op ?_|refine st_heap rfl (by simp (disch:=omega) only[go_sem,wr_i64,if_yes,if_no,↓reduceIte,reduceAdd,reduceMul,reduceEqDiff,Nat.reduceBEq,reduceLeDiff];rfl) ?_|refine st_store (by simp (disch:=omega) only[go_sem,wr_i64,if_yes,if_no,↓reduceIte,reduceAdd,reduceMul,reduceEqDiff,Nat.reduceBEq,reduceLeDiff];rfl) ?_|refine st_nil ?_|refine st_tN ?_)
  refine asem_seq (fi:=⟨30,[],[3,4,5,17],none,[]⟩) tab mixed (by decide) ?_
  repeat' (first|refine st_reg rfl (by first|(simp only[go_sem];rfl)|rfl) (by first|(simp only[go_sem];rfl)|rfl) ?_|refine st_op ?_|refine st_heap rfl (by simp (disch:=omega) only[go_sem,wr_i64,if_yes,if_no,↓reduceIte,reduceAdd,reduceMul,reduceEqDiff,Nat.reduceBEq,reduceLeDiff];rfl) ?_|refine st_nil ?_|refine st_tN ?_)
  refine asem_seq (fi:=⟨30,[],[3,4,5,17],none,[]⟩) tab mixed (by decide) ?_
  repeat' (first|refine st_reg rfl (by first|(simp only[go_sem];rfl)|rfl) (by first|(simp only[go_sem];rfl)|rfl) ?_|refine st_op ?_|refine st_det rfl (by simp (disch:=omega) only[go_sem,wr_i64,if_yes,if_no,↓reduceIte,reduceAdd,reduceMul,reduceEqDiff,Nat.reduceBEq,reduceLeDiff];rfl) ?_|refine st_store (by simp (disch:=omega) only[go_sem,wr_i64,if_yes,if_no,↓reduceIte,reduceAdd,reduceMul,reduceEqDiff,Nat.reduceBEq,reduceLeDiff];rfl) ?_|refine st_nil ?_|refine st_tN ?_)
  refine ASem.knot (g:=.func 69) (cap:=pcap (n,9) t most p) 10 (d+1) rfl (by simp only[go_sem,↓reduceIte];rfl) ?_
  refine asem_awp (fi:=⟨30,[],[3,4,5,17],none,[]⟩) tab mixed (by decide) ?_
  simp only[go_sem]
  have hc:=c69 t most p (n,9) hT hp (t.sts.length+1) d (by omega) (List.replicate t.sts.length 0) 0 (((h.tick (n+1+1+1+1)).put (n,9) (some ⟨1,[[.int .i64 0]]⟩)).put (n+1,10) none) (by simp) (by rw [cntZ_rep];omega) (Nat.zero_le _) (by simp only[go_sem,reduceEqDiff,and_false,↓reduceIte] <;> rfl) (by show n < n+1+1+1+1;omega)
  unfold W69 at hc
  rw [List.drop_zero] at hc
  repeat' (first|refine st_seq_reg rfl (by first|(simp only[go_sem,hz,length_map];rfl)|rfl) (by first|(simp only[go_sem,hz,length_map];rfl)|rfl) ?_|refine st_op ?_|refine st_det rfl (by simp (disch:=omega) only[go_sem,wr_i64,if_yes,if_no,↓reduceIte,reduceAdd,reduceMul,reduceEqDiff,Nat.reduceBEq,reduceLeDiff,hz,length_map];rfl) ?_|(refine st_call (args:=[.agg (stR (elt (List.replicate t.sts.length 0)))]) rfl (by first|(simp (disch:=omega) only[go_sem,hz];rfl)|(simp (disch:=omega) only[go_sem,hz])) rfl hc ?_;rintro v g1 ⟨q1,q2,q3,i',q4,q5,(⟨rfl,q6⟩|⟨rfl,q6⟩)⟩)|refine st_gT rfl rfl rfl ?_|refine st_gF rfl rfl rfl ?_|refine st_nil ?_|refine st_ret ?_)
  all_goals simp only[go_sem] at q1 q2 q3
  have hold:∀ b':Bid,b'.1 < h.clk→g1.at_ b'=h.at_ b':=fun b' hb'=>by
    have e9:¬ b'=(n,9):=ne_fst hb' (by show h.clk≤n;omega)
    have e10:¬ b'=(n+1,10):=ne_fst hb' (by show h.clk≤n+1;omega)
    rw [q3 b' e9 (by omega),if_neg e10,if_neg e9]
  · repeat' (first|refine st_op ?_|refine st_det rfl (by simp (disch:=omega) only[go_sem,wr_i64,if_yes,if_no,↓reduceIte,reduceAdd,reduceMul,reduceEqDiff,Nat.reduceBEq,reduceLeDiff,q5,length_map];rfl) ?_|refine st_gT rfl rfl rfl ?_|refine st_nil ?_|refine st_ret ?_)
    simp (disch:=omega) only[AEnd,Try.results23,aresK,fin,go_sem,↓reduceIte,reduceEqDiff,reduceAdd,reduceLeDiff,if_yes,if_no,implies_true,true_and,and_true,List.reverse_cons,List.reverse_nil]
    refine ⟨hold,q2,?_⟩
    rw [hE]
    unfold provedB
    rw [q6]
    have:decide ((i':Int)=(p.length:Int))=decide (some (p.drop i')=some []):=by
      by_cases e:i'=p.length
      · rw [e,List.drop_length,decide_eq_true rfl,decide_eq_true rfl]
      · rw [decide_eq_false (by omega),decide_eq_false (fun q=>by
          have:=congrArg (fun x=>(x.getD []).length) q
          simp at this;omega)]
    rw [this]
  · have hold:∀ b':Bid,b'.1 < h.clk→g1.at_ b'=h.at_ b':=fun b' hb'=>by
      have e9:¬ b'=(n,9):=ne_fst hb' (by show h.clk≤n;omega)
      have e10:¬ b'=(n+1,10):=ne_fst hb' (by show h.clk≤n+1;omega)
      rw [q3 b' e9 (by omega),if_neg e10,if_neg e9]
    repeat' (first|refine st_seq_reg rfl (by first|(simp only[go_sem,q5];rfl)|rfl) (by first|(simp only[go_sem,q5];rfl)|rfl) ?_)
    simp (disch:=omega) only[AEnd,Try.results23,aresK,fin,go_sem,↓reduceIte,reduceEqDiff,reduceAdd,reduceLeDiff,if_yes,if_no,implies_true,true_and,and_true,List.reverse_cons,List.reverse_nil]
    refine ⟨hold,q2,?_⟩
    rw [hE]
    unfold provedB
    rw [q6];rfl
theorem elt_ext {a b:List Int} (hl:a.length=b.length) (h:∀ i,i < a.length→elt a i=elt b i):a=b:=by
  apply List.ext_getElem hl
  intro i h1 h2
  have:=h i h1
  unfold elt at this
  rw [List.getD_eq_getElem?_getD,List.getD_eq_getElem?_getD,List.getElem?_eq_getElem h1,List.getElem?_eq_getElem h2] at this
  exact this
theorem c31 (a b:List Int) (ha:a.length≤1000000) (hb:b.length≤1000000):Pure Try.prog 31 [.lst 1 (a.map iv),.lst 1 (b.map iv)] (fun v=>v=.bool (decide (a=b))):=by
  intro h
  refine ACalls.forget (ACalls.of tab mixed Try.call31 Try.func31 rfl (fi:=⟨26,[],[],none,[(6,[0,0,3,7,0,0,48,112,255],[(0,false),(1,false),(2,false),(3,true),(4,false),(5,false),(6,false),(7,true),(8,false)])]⟩) rfl rfl (Nat.le_of_ble_eq_true rfl) (by decide) ?_)
  unfold startA
  repeat' (first|refine st_seq_reg rfl (by first|(simp only[go_sem,length_map];rfl)|rfl) (by first|(simp only[go_sem,length_map];rfl)|rfl) ?_|refine st_op ?_|refine st_det rfl (by simp (disch:=omega) only[go_sem,wr_i64,if_yes,if_no,↓reduceIte,reduceAdd,reduceMul,reduceEqDiff,Nat.reduceBEq,reduceLeDiff,length_map];rfl) ?_|(refine st_condS rfl ?_ ?_ <;> intro hg <;> (try simp only[decide_eq_true_eq,decide_eq_false_iff_not,Bool.not_eq_true',Bool.not_eq_false'] at hg))|refine st_nil ?_|refine st_tN ?_|refine st_seq ?_|refine st_block ?_|refine st_skip ?_|refine st_ret ?_|refine st_tR ?_)
  all_goals try (exfalso;omega)
  · simp (disch:=omega) only[AEnd,Try.results31,aresK,fin,go_sem,↓reduceIte,reduceEqDiff,reduceAdd,reduceLeDiff,if_yes,if_no,implies_true,true_and,and_true,List.reverse_cons,List.reverse_nil]
    rw [decide_eq_false];intro e;rw [e] at hg;exact hg rfl
  have hl:a.length=b.length:=by omega
  refine st_loopC (α:=Nat) tab mixed [] [] (by repeat (first|exact trivial|refine ⟨rfl,?_⟩)) [] [] (by repeat (first|exact trivial|refine ⟨rfl,?_⟩)) (fun i=>[(5,.int .i64 (i:Nat))]) [(0,_),(1,_)] (fun _=>[]) [] (fun i=>i≤a.length∧∀ j,j < i→elt a j=elt b j) (fun i=>a.length - i) (by decide) 0 ⟨Nat.zero_le _,fun j hj=>absurd hj (Nat.not_lt_zero _)⟩ (by (try simp only[go_sem]);repeat' (first|exact trivial|refine And.intro ?_ ?_|rfl|(simp (disch:=omega) only[go_sem,if_yes,if_no,↓reduceIte,reduceAdd,reduceMul,reduceEqDiff,Nat.reduceBEq,reduceLeDiff];rfl)|(simp (disch:=omega) only[go_sem,if_yes,if_no,↓reduceIte,reduceAdd,reduceMul,reduceEqDiff,Nat.reduceBEq,reduceLeDiff]))) (by (try simp only[go_sem]);repeat' (first|exact trivial|refine And.intro ?_ ?_|rfl|(simp (disch:=omega) only[go_sem,if_yes,if_no,↓reduceIte,reduceAdd,reduceMul,reduceEqDiff,Nat.reduceBEq,reduceLeDiff];rfl)|(simp (disch:=omega) only[go_sem,if_yes,if_no,↓reduceIte,reduceAdd,reduceMul,reduceEqDiff,Nat.reduceBEq,reduceLeDiff]))) (by first|(simp only[go_sem];rfl)|rfl) (by intro n;simp only[go_sem];rfl) ?_
  rintro i c ⟨i1,i2⟩ hc
  simp only[go_sem]
  by_cases hi:i < a.length
  case neg =>
    obtain rfl:i=a.length:=by omega
    repeat' (first|refine st_seq_reg rfl (by first|(simp only[go_sem,length_map];rfl)|rfl) (by first|(simp only[go_sem,length_map];rfl)|rfl) ?_|refine st_reg rfl (by first|(simp only[go_sem,length_map];rfl)|rfl) (by first|(simp only[go_sem,length_map];rfl)|rfl) ?_|refine st_seq_draw rfl (by first|(simp only[go_sem,length_map];rfl)|rfl) (by first|(simp only[go_sem,length_map];rfl)|rfl) ?_|refine st_op ?_|refine st_det rfl (by simp (disch:=omega) only[go_sem,wr_i64,if_yes,if_no,↓reduceIte,reduceAdd,reduceMul,reduceEqDiff,Nat.reduceBEq,reduceLeDiff,length_map];rfl) ?_|refine st_dop rfl ?_|(refine st_condS rfl ?_ ?_ <;> intro hg <;> (try simp only[decide_eq_true_eq,decide_eq_false_iff_not,Bool.not_eq_true',Bool.not_eq_false'] at hg))|refine st_nil ?_|refine st_dnil ?_|refine st_tN ?_|refine st_seq ?_|refine st_block ?_|refine st_skip ?_|refine st_exit ?_|refine st_ret ?_|refine st_tE ?_|refine st_tR ?_|refine st_bN ?_|refine st_bR ?_|refine st_bH ?_)
    all_goals try (exfalso;omega)
    simp (disch:=omega) only[AEnd,Try.results31,aresK,fin,go_sem,↓reduceIte,reduceEqDiff,reduceAdd,reduceLeDiff,if_yes,if_no,implies_true,true_and,and_true,List.reverse_cons,List.reverse_nil]
    rw [decide_eq_true (elt_ext hl i2)]
  by_cases he:elt a i=elt b i
  · repeat' (first|refine st_seq_reg rfl (by first|(simp only[go_sem,length_map,he];rfl)|rfl) (by first|(simp only[go_sem,length_map,he];rfl)|rfl) ?_|refine st_reg rfl (by first|(simp only[go_sem,length_map,he];rfl)|rfl) (by first|(simp only[go_sem,length_map,he];rfl)|rfl) ?_|refine st_seq_draw rfl (by first|(simp only[go_sem,length_map,he];rfl)|rfl) (by first|(simp only[go_sem,length_map,he];rfl)|rfl) ?_|refine st_op ?_|refine st_det rfl (by simp (disch:=omega) only[go_sem,wr_i64,if_yes,if_no,↓reduceIte,reduceAdd,reduceMul,reduceEqDiff,Nat.reduceBEq,reduceLeDiff,length_map,he];rfl) ?_|refine st_dop rfl ?_|refine st_condF rfl ?_|(refine st_condS rfl ?_ ?_ <;> intro hg <;> (try simp only[decide_eq_true_eq,decide_eq_false_iff_not,Bool.not_eq_true',Bool.not_eq_false'] at hg))|refine st_nil ?_|refine st_dnil ?_|refine st_tN ?_|refine st_seq ?_|refine st_block ?_|refine st_skip ?_|refine st_exit ?_|refine st_ret ?_|refine st_tE ?_|refine st_bN ?_|refine st_bH ?_)
    all_goals try (exfalso;omega)
    all_goals try (exfalso;first|exact absurd rfl (by assumption)|exact absurd he (by assumption))
    refine ⟨i+1,⟨by show i+1≤_;omega,all_stepP i2 he⟩,by show a.length - (i+1) < a.length - i;omega,(by repeat' (first|exact trivial|refine And.intro ?_ ?_|rfl|(simp (disch:=omega) only[go_sem,if_yes,if_no,↓reduceIte,reduceAdd,reduceMul,reduceEqDiff,Nat.reduceBEq,reduceLeDiff];rfl)|(simp (disch:=omega) only[go_sem,if_yes,if_no,↓reduceIte,reduceAdd,reduceMul,reduceEqDiff,Nat.reduceBEq,reduceLeDiff]))),(by repeat' (first|exact trivial|refine And.intro ?_ ?_|rfl|(simp (disch:=omega) only[go_sem,if_yes,if_no,↓reduceIte,reduceAdd,reduceMul,reduceEqDiff,Nat.reduceBEq,reduceLeDiff];rfl)|(simp (disch:=omega) only[go_sem,if_yes,if_no,↓reduceIte,reduceAdd,reduceMul,reduceEqDiff,Nat.reduceBEq,reduceLeDiff]))),rfl,(by first|exact HOld.of _ (by omega)|exact HOld.put _ _ _ (by omega))⟩
  · repeat' (first|refine st_seq_reg rfl (by first|(simp only[go_sem,length_map];rfl)|rfl) (by first|(simp only[go_sem,length_map];rfl)|rfl) ?_|refine st_reg rfl (by first|(simp only[go_sem,length_map];rfl)|rfl) (by first|(simp only[go_sem,length_map];rfl)|rfl) ?_|refine st_seq_draw rfl (by first|(simp only[go_sem,length_map];rfl)|rfl) (by first|(simp only[go_sem,length_map];rfl)|rfl) ?_|refine st_op ?_|refine st_det rfl (by simp (disch:=omega) only[go_sem,wr_i64,if_yes,if_no,↓reduceIte,reduceAdd,reduceMul,reduceEqDiff,Nat.reduceBEq,reduceLeDiff,length_map];rfl) ?_|refine st_dop rfl ?_|(refine st_condS rfl ?_ ?_ <;> intro hg <;> (try simp only[decide_eq_true_eq,decide_eq_false_iff_not,Bool.not_eq_true',Bool.not_eq_false'] at hg))|refine st_nil ?_|refine st_dnil ?_|refine st_tN ?_|refine st_seq ?_|refine st_block ?_|refine st_skip ?_|refine st_exit ?_|refine st_ret ?_|refine st_tE ?_|refine st_tR ?_|refine st_bN ?_|refine st_bR ?_|refine st_bH ?_)
    all_goals try (exfalso;omega)
    simp (disch:=omega) only[AEnd,Try.results31,aresK,fin,go_sem,↓reduceIte,reduceEqDiff,reduceAdd,reduceLeDiff,if_yes,if_no,implies_true,true_and,and_true,List.reverse_cons,List.reverse_nil]
    rw [decide_eq_false];intro e;rw [e] at he;exact he rfl
def spR (x:Int × Int):List AV:=[.int .i64 x.1,.int .i64 x.2]
@[go_sem] theorem spR_eq (x:Int × Int):spR x=[.int .i64 x.1,.int .i64 x.2]:=rfl
def spn (l:List (Int × Int)) (i:Nat):Int × Int:=l.getD i (0,0)
@[go_sem] theorem sprow_getD {l:List (Int × Int)} {i:Nat} (h:i < l.length):(l.map spR).getD i []=spR (spn l i):=by
  simp [List.getD_eq_getElem?_getD,h,spn]
theorem spn_ext {a b:List (Int × Int)} (hl:a.length=b.length) (h:∀ i,i < a.length→spn a i=spn b i):a=b:=by
  apply List.ext_getElem hl
  intro i h1 h2
  have:=h i h1
  unfold spn at this
  rw [List.getD_eq_getElem?_getD,List.getD_eq_getElem?_getD,List.getElem?_eq_getElem h1,List.getElem?_eq_getElem h2] at this
  exact this
theorem sp_eq (x y:Int × Int):([(IntKind.i64,x.1),(.i64,x.2)]=[(IntKind.i64,y.1),(.i64,y.2)]) ↔ x=y:=by
  cases x;cases y;simp
theorem c53 (a b:List (Int × Int)) (ha:a.length≤1000000) (hb:b.length≤1000000):Pure Try.prog 53 [.lst 2 (a.map spR),.lst 2 (b.map spR)] (fun v=>v=.bool (decide (a=b))):=by
  intro h
  refine ACalls.forget (ACalls.of tab mixed Try.call53 Try.func53 rfl (fi:=⟨26,[],[],none,[(6,[0,0,3,7,0,0,48,112,255],[(0,false),(1,false),(2,false),(3,true),(4,false),(5,false),(6,false),(7,true),(8,false)])]⟩) rfl rfl (Nat.le_of_ble_eq_true rfl) (by decide) ?_)
  unfold startA
  repeat' (first|refine st_seq_reg rfl (by first|(simp only[go_sem,length_map];rfl)|rfl) (by first|(simp only[go_sem,length_map];rfl)|rfl) ?_|refine st_op ?_|refine st_det rfl (by simp (disch:=omega) only[go_sem,wr_i64,if_yes,if_no,↓reduceIte,reduceAdd,reduceMul,reduceEqDiff,Nat.reduceBEq,reduceLeDiff,length_map];rfl) ?_|(refine st_condS rfl ?_ ?_ <;> intro hg <;> (try simp only[decide_eq_true_eq,decide_eq_false_iff_not,Bool.not_eq_true',Bool.not_eq_false'] at hg))|refine st_nil ?_|refine st_tN ?_|refine st_seq ?_|refine st_block ?_|refine st_skip ?_|refine st_ret ?_|refine st_tR ?_)
  all_goals try (exfalso;omega)
  · simp (disch:=omega) only[AEnd,Try.results53,aresK,fin,go_sem,↓reduceIte,reduceEqDiff,reduceAdd,reduceLeDiff,if_yes,if_no,implies_true,true_and,and_true,List.reverse_cons,List.reverse_nil]
    rw [decide_eq_false];intro e;rw [e] at hg;exact hg rfl
  have hl:a.length=b.length:=by omega
  refine st_loopC (α:=Nat) tab mixed [] [] (by repeat (first|exact trivial|refine ⟨rfl,?_⟩)) [] [] (by repeat (first|exact trivial|refine ⟨rfl,?_⟩)) (fun i=>[(5,.int .i64 (i:Nat))]) [(0,_),(1,_)] (fun _=>[]) [] (fun i=>i≤a.length∧∀ j,j < i→spn a j=spn b j) (fun i=>a.length - i) (by decide) 0 ⟨Nat.zero_le _,fun j hj=>absurd hj (Nat.not_lt_zero _)⟩ (by (try simp only[go_sem]);repeat' (first|exact trivial|refine And.intro ?_ ?_|rfl|(simp (disch:=omega) only[go_sem,if_yes,if_no,↓reduceIte,reduceAdd,reduceMul,reduceEqDiff,Nat.reduceBEq,reduceLeDiff];rfl)|(simp (disch:=omega) only[go_sem,if_yes,if_no,↓reduceIte,reduceAdd,reduceMul,reduceEqDiff,Nat.reduceBEq,reduceLeDiff]))) (by (try simp only[go_sem]);repeat' (first|exact trivial|refine And.intro ?_ ?_|rfl|(simp (disch:=omega) only[go_sem,if_yes,if_no,↓reduceIte,reduceAdd,reduceMul,reduceEqDiff,Nat.reduceBEq,reduceLeDiff];rfl)|(simp (disch:=omega) only[go_sem,if_yes,if_no,↓reduceIte,reduceAdd,reduceMul,reduceEqDiff,Nat.reduceBEq,reduceLeDiff]))) (by first|(simp only[go_sem];rfl)|rfl) (by intro n;simp only[go_sem];rfl) ?_
  rintro i c ⟨i1,i2⟩ hc
  simp only[go_sem]
  by_cases hi:i < a.length
  case neg =>
    obtain rfl:i=a.length:=by omega
    repeat' (first|refine st_seq_reg rfl (by first|(simp only[go_sem,length_map];rfl)|rfl) (by first|(simp only[go_sem,length_map];rfl)|rfl) ?_|refine st_reg rfl (by first|(simp only[go_sem,length_map];rfl)|rfl) (by first|(simp only[go_sem,length_map];rfl)|rfl) ?_|refine st_seq_draw rfl (by first|(simp only[go_sem,length_map];rfl)|rfl) (by first|(simp only[go_sem,length_map];rfl)|rfl) ?_|refine st_op ?_|refine st_det rfl (by simp (disch:=omega) only[go_sem,wr_i64,if_yes,if_no,↓reduceIte,reduceAdd,reduceMul,reduceEqDiff,Nat.reduceBEq,reduceLeDiff,length_map];rfl) ?_|refine st_dop rfl ?_|(refine st_condS rfl ?_ ?_ <;> intro hg <;> (try simp only[decide_eq_true_eq,decide_eq_false_iff_not,Bool.not_eq_true',Bool.not_eq_false'] at hg))|refine st_nil ?_|refine st_dnil ?_|refine st_tN ?_|refine st_seq ?_|refine st_block ?_|refine st_skip ?_|refine st_exit ?_|refine st_ret ?_|refine st_tE ?_|refine st_tR ?_|refine st_bN ?_|refine st_bR ?_|refine st_bH ?_)
    all_goals try (exfalso;omega)
    simp (disch:=omega) only[AEnd,Try.results53,aresK,fin,go_sem,↓reduceIte,reduceEqDiff,reduceAdd,reduceLeDiff,if_yes,if_no,implies_true,true_and,and_true,List.reverse_cons,List.reverse_nil]
    rw [decide_eq_true (spn_ext hl i2)]
  by_cases he:spn a i=spn b i
  · have hd:decide ([(IntKind.i64,(spn a i).1),(.i64,(spn a i).2)]=[(IntKind.i64,(spn b i).1),(.i64,(spn b i).2)])=true:=decide_eq_true ((sp_eq _ _).2 he)
    repeat' (first|refine st_seq_reg rfl (by first|(simp only[go_sem,length_map,hd];rfl)|rfl) (by first|(simp only[go_sem,length_map,hd];rfl)|rfl) ?_|refine st_reg rfl (by first|(simp only[go_sem,length_map,hd];rfl)|rfl) (by first|(simp only[go_sem,length_map,hd];rfl)|rfl) ?_|refine st_seq_draw rfl (by first|(simp only[go_sem,length_map,hd];rfl)|rfl) (by first|(simp only[go_sem,length_map,hd];rfl)|rfl) ?_|refine st_op ?_|refine st_det rfl (by simp (disch:=omega) only[go_sem,wr_i64,if_yes,if_no,↓reduceIte,reduceAdd,reduceMul,reduceEqDiff,Nat.reduceBEq,reduceLeDiff,length_map,hd];rfl) ?_|refine st_dop rfl ?_|refine st_condF rfl ?_|(refine st_condS rfl ?_ ?_ <;> intro hg <;> (try simp only[decide_eq_true_eq,decide_eq_false_iff_not,Bool.not_eq_true',Bool.not_eq_false'] at hg))|refine st_nil ?_|refine st_dnil ?_|refine st_tN ?_|refine st_seq ?_|refine st_block ?_|refine st_skip ?_|refine st_exit ?_|refine st_ret ?_|refine st_tE ?_|refine st_bN ?_|refine st_bH ?_)
    all_goals try (exfalso;omega)
    refine ⟨i+1,⟨by show i+1≤_;omega,all_stepP i2 he⟩,by show a.length - (i+1) < a.length - i;omega,(by repeat' (first|exact trivial|refine And.intro ?_ ?_|rfl|(simp (disch:=omega) only[go_sem,if_yes,if_no,↓reduceIte,reduceAdd,reduceMul,reduceEqDiff,Nat.reduceBEq,reduceLeDiff];rfl)|(simp (disch:=omega) only[go_sem,if_yes,if_no,↓reduceIte,reduceAdd,reduceMul,reduceEqDiff,Nat.reduceBEq,reduceLeDiff]))),(by repeat' (first|exact trivial|refine And.intro ?_ ?_|rfl|(simp (disch:=omega) only[go_sem,if_yes,if_no,↓reduceIte,reduceAdd,reduceMul,reduceEqDiff,Nat.reduceBEq,reduceLeDiff];rfl)|(simp (disch:=omega) only[go_sem,if_yes,if_no,↓reduceIte,reduceAdd,reduceMul,reduceEqDiff,Nat.reduceBEq,reduceLeDiff]))),rfl,(by first|exact HOld.of _ (by omega)|exact HOld.put _ _ _ (by omega))⟩
  · have hd:decide ([(IntKind.i64,(spn a i).1),(.i64,(spn a i).2)]=[(IntKind.i64,(spn b i).1),(.i64,(spn b i).2)])=false:=decide_eq_false (fun e=>he ((sp_eq _ _).1 e))
    repeat' (first|refine st_seq_reg rfl (by first|(simp only[go_sem,length_map,hd];rfl)|rfl) (by first|(simp only[go_sem,length_map,hd];rfl)|rfl) ?_|refine st_seq_draw rfl (by first|(simp only[go_sem,length_map,hd];rfl)|rfl) (by first|(simp only[go_sem,length_map,hd];rfl)|rfl) ?_|refine st_op ?_|refine st_det rfl (by simp (disch:=omega) only[go_sem,wr_i64,if_yes,if_no,↓reduceIte,reduceAdd,reduceMul,reduceEqDiff,Nat.reduceBEq,reduceLeDiff,length_map,hd];rfl) ?_|refine st_dop rfl ?_|refine st_condT rfl ?_|(refine st_condS rfl ?_ ?_ <;> intro hg <;> (try simp only[decide_eq_true_eq,decide_eq_false_iff_not,Bool.not_eq_true',Bool.not_eq_false'] at hg))|refine st_nil ?_|refine st_dnil ?_|refine st_tN ?_|refine st_seq ?_|refine st_block ?_|refine st_skip ?_|refine st_exit ?_|refine st_ret ?_|refine st_tE ?_|refine st_tR ?_|refine st_bR ?_|refine st_bH ?_)
    all_goals try (exfalso;omega)
    simp (disch:=omega) only[AEnd,Try.results53,aresK,fin,go_sem,↓reduceIte,reduceEqDiff,reduceAdd,reduceLeDiff,if_yes,if_no,implies_true,true_and,and_true,List.reverse_cons,List.reverse_nil]
    rw [decide_eq_false];intro e;rw [e] at he;exact he rfl
theorem c34 (a b:Int):Pure Try.prog 34 [.int .i64 a,.int .i64 b] (fun v=>v=.agg [.int .i64 a,.int .i64 b]):=by
  intro h
  refine ACalls.forget (ACalls.of tab mixed Try.call34 Try.func34 rfl (fi:=⟨8,[4],[],none,[]⟩) rfl rfl (Nat.le_of_ble_eq_true rfl) (by decide) ?_)
  unfold startA
  repeat' (first|refine st_seq_reg rfl (by first|(simp only[go_sem];rfl)|rfl) (by first|(simp only[go_sem];rfl)|rfl) ?_|refine st_op ?_|refine st_det rfl (by simp (disch:=omega) only[go_sem,wr_i64,if_yes,if_no,↓reduceIte,reduceAdd,reduceMul,reduceEqDiff,Nat.reduceBEq,reduceLeDiff];rfl) ?_|refine st_loc rfl (by simp (disch:=omega) only[go_sem,wr_i64,if_yes,if_no,↓reduceIte,reduceAdd,reduceMul,reduceEqDiff,Nat.reduceBEq,reduceLeDiff];rfl) ?_|refine st_store (by simp (disch:=omega) only[go_sem,wr_i64,if_yes,if_no,↓reduceIte,reduceAdd,reduceMul,reduceEqDiff,Nat.reduceBEq,reduceLeDiff];rfl) ?_|refine st_nil ?_|refine st_ret ?_)
  simp (disch:=omega) only[AEnd,Try.results34,aresK,fin,go_sem,↓reduceIte,reduceEqDiff,reduceAdd,reduceLeDiff,if_yes,if_no,implies_true,true_and,and_true,List.reverse_cons,List.reverse_nil]
def town0:Tw:=⟨[110,80,50],[⟨0,1⟩,⟨1,2⟩,⟨0,2⟩],[⟨60,70,0,0,2,0,[0,1]⟩,⟨20,40,1,2,1,0,[2]⟩],6⟩
def proof0:List Rn:=[⟨1,0,0,0⟩,⟨1,1,0,0⟩,⟨2,0,2,4⟩,⟨3,0,0,0⟩,⟨3,0,0,0⟩]
theorem c59:Pure Try.prog 59 [] (fun v=>v=town0.av):=by
  intro h
  refine ACalls.forget (ACalls.of tab mixed Try.call59 Try.func59 rfl (fi:=⟨15,[0],[1,5,7,11,13],none,[]⟩) rfl rfl (Nat.le_of_ble_eq_true rfl) (by decide) ?_)
  unfold startA
  repeat' (first|refine st_seq_reg rfl (by first|(simp only[go_sem];rfl)|rfl) (by first|(simp only[go_sem];rfl)|rfl) ?_|refine st_op ?_|refine st_det rfl (by simp (disch:=omega) only[go_sem,wr_i64,if_yes,if_no,↓reduceIte,reduceAdd,reduceMul,reduceEqDiff,Nat.reduceBEq,reduceLeDiff];rfl) ?_|refine st_loc rfl (by simp (disch:=omega) only[go_sem,wr_i64,if_yes,if_no,↓reduceIte,reduceAdd,reduceMul,reduceEqDiff,Nat.reduceBEq,reduceLeDiff];rfl) ?_|refine st_store (by simp (disch:=omega) only[go_sem,wr_i64,if_yes,if_no,↓reduceIte,reduceAdd,reduceMul,reduceEqDiff,Nat.reduceBEq,reduceLeDiff];rfl) ?_|(refine st_pureE (by first|(simp (disch:=omega) only[go_sem];rfl)|rfl) rfl (c34 _ _) (by first|(simp only[go_sem];rfl)|rfl) (by intro n;first|(simp (disch:=omega) only[go_sem];rfl)|rfl) ?_;intro n hn)|refine st_nil ?_|refine st_ret ?_)
  simp (disch:=omega) only[AEnd,Try.results59,aresK,fin,go_sem,↓reduceIte,reduceEqDiff,reduceAdd,reduceLeDiff,if_yes,if_no,implies_true,true_and,and_true,List.reverse_cons,List.reverse_nil]
  try rfl
theorem c60:Pure Try.prog 60 [] (fun v=>v=.lst 4 (proof0.map Rn.row)):=by
  intro h
  refine ACalls.forget (ACalls.of tab mixed Try.call60 Try.func60 rfl (fi:=⟨7,[],[6],none,[]⟩) rfl rfl (Nat.le_of_ble_eq_true rfl) (by decide) ?_)
  unfold startA
  repeat' (first|refine st_seq_reg rfl (by first|(simp only[go_sem];rfl)|rfl) (by first|(simp only[go_sem];rfl)|rfl) ?_|refine st_op ?_|refine st_det rfl (by simp (disch:=omega) only[go_sem,wr_i64,if_yes,if_no,↓reduceIte,reduceAdd,reduceMul,reduceEqDiff,Nat.reduceBEq,reduceLeDiff];rfl) ?_|refine st_nil ?_|refine st_ret ?_)
  simp (disch:=omega) only[AEnd,Try.results60,aresK,fin,go_sem,↓reduceIte,reduceEqDiff,reduceAdd,reduceLeDiff,if_yes,if_no,implies_true,true_and,and_true,List.reverse_cons,List.reverse_nil]
  try rfl
theorem lds0:ldsR town0 [] 1=.tup [.lst 2 ([((60:Int),(110:Int)),(0,0),(0,0)].map spR),.int .i64 0]:=by
  unfold ldsR
  rw [if_neg (by decide +kernel),if_neg (by decide +kernel)]
  have e:ldR town0 (cls []) 1 town0.rooms.length=[((60:Int),(110:Int)),(0,0),(0,0)].map spR:=by
    show [[AV.int .i64 (ldLo town0 (cls []) 0 1),.int .i64 (ldHi town0 (cls []) 0 1)],[.int .i64 (ldLo town0 (cls []) 1 1),.int .i64 (ldHi town0 (cls []) 1 1)],[.int .i64 (ldLo town0 (cls []) 2 1),.int .i64 (ldHi town0 (cls []) 2 1)]]=_
    rw [show ldLo town0 (cls []) 0 1=60 by decide +kernel,show ldHi town0 (cls []) 0 1=110 by decide +kernel,show ldLo town0 (cls []) 1 1=0 by decide +kernel,show ldHi town0 (cls []) 1 1=0 by decide +kernel,show ldLo town0 (cls []) 2 1=0 by decide +kernel,show ldHi town0 (cls []) 2 1=0 by decide +kernel]
    rfl
  rw [e]
theorem close0:closeV town0=.tup [.lst 1 ([0].map iv),.int .i64 0]:=by
  unfold closeV
  rw [if_neg (by decide +kernel),show clo town0 town0.sts.length=some [0] by decide +kernel]
theorem proved0:provedV town0 0 proof0=.tup [.bool true,.int .i64 0]:=by
  unfold provedV
  rw [if_neg (by decide +kernel),if_neg (by decide),show provedB town0 0 proof0=true by decide +kernel]
theorem way0:wayV town0 [2] 0 2=.tup [.lst 1 ([0,1,2].map iv),.int .i64 0]:=by
  unfold wayV
  rw [if_neg (by decide +kernel),if_neg (by decide),show dst town0 [2] 2 0=some 2 by decide +kernel]
  show AV.tup [.lst 1 ((wayL town0 [2] 2 2 0).map iv),.int .i64 0]=_
  rw [show wayL town0 [2] 2 2 0=[0,1,2] by decide +kernel]
theorem Pure.le {f:FuncId} {args args':List AV} {R:AV→Prop} (hl:VLes args args') (H:Pure Try.prog f args' R):Pure Try.prog f args R :=
  fun h=>⟨(H h).1,fun c xs hh hv=>(H h).2 c xs hh (hl.rel hv)⟩
theorem le1 {a b:AV} {l r:List AV} (h:VLe a b) (k:VLes l r):VLes (a :: l) (b :: r):=by simp only[VLes];exact ⟨_,_,rfl,h,k⟩
theorem c15:Pure Try.prog 15 [] (fun v=>v=.bool true):=by
  have k1:Pure Try.prog 32 [town0.av,.nils,.int .i64 1] (fun v=>v=.tup [.lst 2 ([((60:Int),(110:Int)),(0,0),(0,0)].map spR),.int .i64 0]):=by
    have k:=c32 town0 [] 1 (by decide)
    rw [lds0] at k
    exact Pure.le (le1 (VLe.refl _) (le1 (VLe.nils 1) (VLes.refl _))) k
  have k2:=c36 town0
  rw [close0] at k2
  have k3:=c23 town0 0 proof0 (by decide)
  rw [proved0] at k3
  have k4:=c29 town0 [2] 0 2 (by decide)
  rw [way0] at k4
  have e1:=c53 [((60:Int),(110:Int)),(0,0),(0,0)] [((60:Int),(110:Int)),(0,0),(0,0)] (by decide) (by decide)
  rw [decide_eq_true rfl] at e1
  have e2:=c31 [0] [0] (by decide) (by decide)
  rw [decide_eq_true rfl] at e2
  have e3:=c31 [0,1,2] [0,1,2] (by decide) (by decide)
  rw [decide_eq_true rfl] at e3
  intro h
  refine ACalls.forget (ACalls.of tab mixed Try.call15 Try.func15 rfl (fi:=⟨66,[],[27,53,58,63],none,[]⟩) rfl rfl (Nat.le_of_ble_eq_true rfl) (by decide) ?_)
  unfold startA
  repeat' (first|refine st_seq_reg rfl (by first|(simp only[go_sem];rfl)|rfl) (by first|(simp only[go_sem];rfl)|rfl) ?_|refine st_op ?_|refine st_det rfl (by simp (disch:=omega) only[go_sem,wr_i64,if_yes,if_no,↓reduceIte,reduceAdd,reduceMul,reduceEqDiff,Nat.reduceBEq,reduceLeDiff];rfl) ?_|(refine st_pureE (by first|(simp (disch:=omega) only[go_sem];rfl)|rfl) rfl (c59) (by first|(simp only[go_sem];rfl)|rfl) (by intro n;first|(simp (disch:=omega) only[go_sem];rfl)|rfl) ?_;intro n hn)|(refine st_pureE (by first|(simp (disch:=omega) only[go_sem];rfl)|rfl) rfl (c60) (by first|(simp only[go_sem];rfl)|rfl) (by intro n;first|(simp (disch:=omega) only[go_sem];rfl)|rfl) ?_;intro n hn)|(refine st_pureE (by first|(simp (disch:=omega) only[go_sem];rfl)|rfl) rfl (k1) (by first|(simp only[go_sem];rfl)|rfl) (by intro n;first|(simp (disch:=omega) only[go_sem];rfl)|rfl) ?_;intro n hn)|(refine st_pureE (by first|(simp (disch:=omega) only[go_sem];rfl)|rfl) rfl (k2) (by first|(simp only[go_sem];rfl)|rfl) (by intro n;first|(simp (disch:=omega) only[go_sem];rfl)|rfl) ?_;intro n hn)|(refine st_pureE (by first|(simp (disch:=omega) only[go_sem];rfl)|rfl) rfl (k3) (by first|(simp only[go_sem];rfl)|rfl) (by intro n;first|(simp (disch:=omega) only[go_sem];rfl)|rfl) ?_;intro n hn)|(refine st_pureE (by first|(simp (disch:=omega) only[go_sem];rfl)|rfl) rfl (k4) (by first|(simp only[go_sem];rfl)|rfl) (by intro n;first|(simp (disch:=omega) only[go_sem];rfl)|rfl) ?_;intro n hn)|(refine st_pureE (by first|(simp (disch:=omega) only[go_sem];rfl)|rfl) rfl (c34 _ _) (by first|(simp only[go_sem];rfl)|rfl) (by intro n;first|(simp (disch:=omega) only[go_sem];rfl)|rfl) ?_;intro n hn)|(refine st_pureE (by first|(simp (disch:=omega) only[go_sem];rfl)|rfl) rfl (e1) (by first|(simp only[go_sem];rfl)|rfl) (by intro n;first|(simp (disch:=omega) only[go_sem];rfl)|rfl) ?_;intro n hn)|(refine st_pureE (by first|(simp (disch:=omega) only[go_sem];rfl)|rfl) rfl (e2) (by first|(simp only[go_sem];rfl)|rfl) (by intro n;first|(simp (disch:=omega) only[go_sem];rfl)|rfl) ?_;intro n hn)|(refine st_pureE (by first|(simp (disch:=omega) only[go_sem];rfl)|rfl) rfl (e3) (by first|(simp only[go_sem];rfl)|rfl) (by intro n;first|(simp (disch:=omega) only[go_sem];rfl)|rfl) ?_;intro n hn)|refine st_gT rfl rfl rfl ?_|refine st_nil ?_|refine st_ret ?_)
  simp (disch:=omega) only[AEnd,Try.results15,aresK,fin,go_sem,↓reduceIte,reduceEqDiff,reduceAdd,reduceLeDiff,if_yes,if_no,implies_true,true_and,and_true,List.reverse_cons,List.reverse_nil]
end Go.Proofs.Ythjbfdfhblloiaa
