/- Contracts of functions that the claim reaches: what each call gives, told in our own logic. Conditions: those of each theorem. -/
import Derived.Test.YthjbfdfhblloiaaBaseC
import Derived.Test.YthjbfdfhblloiaaBaseD
import Derived.Test.YthjbfdfhblloiaaQS
import Derived.Test.YthjbfdfhblloiaaQ29
import Derived.Test.YthjbfdfhblloiaaW3
import Derived.Test.YthjbfdfhblloiaaQ31
import Derived.Test.YthjbfdfhblloiaaQ74
import Derived.Test.YthjbfdfhblloiaaRows
import Derived.WalkKit
import Derived.ProofKit
import Derived.OpenShut
import Derived.ShutString
import Derived.ChangeOld
import Derived.Below
open Nat (reduceAdd reduceMul reduceEqDiff reduceLeDiff)
open List (length_map)
set_option linter.all false
set_option linter.unusedSimpArgs false
set_option linter.unusedVariables false
namespace Go.Proofs.Ythjbfdfhblloiaa
open Go.Av
attribute [local irreducible] thenA blockA awp awpOps awpD awp1
set_option maxHeartbeats 8000000
set_option maxRecDepth 20000
theorem clo_cut {t:Tw} {M:Nat} (hM:M≤t.sts.length):(∀ A,clo t t.sts.length=some A→A.length≤M→clo t M=some A)∧(∀ A,clo t t.sts.length=some A→M < A.length→clo t M=none)∧(clo t t.sts.length=none→clo t M=none):=by
  have e1:min M t.sts.length=M:=by omega
  have up:∀ B,clo t M=some B→clo t t.sts.length=some B∧B.length≤M:=fun B hB=>by
    unfold clo chsAll at hB ⊢
    rw [e1] at hB
    rw [Nat.min_self]
    obtain ⟨m,hm,hA⟩:=mem_catN.1 (List.mem_of_find?_eq_some hB)
    have:=(chs_ok (t:=t) m 0 B hA).1
    exact ⟨catN_fpre hB (by omega),by omega⟩
  refine ⟨fun A hA hl=>?_,fun A hA hl=>?_,fun hn=>?_⟩
  · cases hB:clo t M with
    | some B=>rw [(up B hB).1] at hA;exact hA
    | none =>
      exfalso
      unfold clo chsAll at hA hB
      rw [e1,List.find?_eq_none] at hB
      rw [Nat.min_self] at hA
      obtain ⟨m,hm,hA2⟩:=mem_catN.1 (List.mem_of_find?_eq_some hA)
      have:=(chs_ok (t:=t) m 0 A hA2).1
      exact hB A (mem_catN.2 ⟨m,by omega,hA2⟩) (List.find?_some (p:=fun l=>(crL t (cls l)).isEmpty) hA)
  · cases hB:clo t M with
    | some B =>
      have h1:=up B hB
      rw [h1.1] at hA;cases hA;omega
    | none=>rfl
  · cases hB:clo t M with
    | some B=>rw [(up B hB).1] at hn;cases hn
    | none=>rfl
theorem c20h (l:List Rn) (hl:l.length < 1000000) (h:AH):ACalls Try.prog 20 [.lst 4 (l.map Rn.row)] h (fun v h'=>∃ bb n,v=.slc bb 4 0 l.length∧h.clk≤bb.1∧bb.1 < n∧h'=(h.tick n).put bb (some ⟨4,l.map Rn.row⟩)):=by
  refine ACalls.sub (Q:=fun v h'=>v=.slc (h.clk+1,5) 4 0 l.length∧h'=((h.tick (h.clk+1+1)).put (h.clk+1,3) none).put (h.clk+1,5) (some ⟨4,l.map Rn.row⟩)) ?_ ?_
  · refine ACalls.of tab mixed Try.call20 Try.func20 rfl (fi:=⟨6,[],[],none,[]⟩) rfl rfl (Nat.le_of_ble_eq_true rfl) (by decide) ?_
    unfold startA
    repeat' (first|refine st_seq_reg rfl (by first|(simp only[go_sem,length_map,big,Nat.zero_add];rfl)|rfl) (by first|(simp only[go_sem,length_map,big,Nat.zero_add];rfl)|rfl) ?_|refine st_op ?_|refine st_det rfl (by simp (disch:=omega) only[go_sem,wr_i64,if_yes,if_no,↓reduceIte,reduceAdd,reduceMul,reduceEqDiff,Nat.reduceBEq,reduceLeDiff,length_map,big,Nat.zero_add];rfl) ?_|refine st_heap rfl (by simp (disch:=omega) only[go_sem,wr_i64,if_yes,if_no,↓reduceIte,reduceAdd,reduceMul,reduceEqDiff,Nat.reduceBEq,reduceLeDiff,length_map,big,Nat.zero_add];rfl) ?_|refine st_append (by simp (disch:=omega) only[go_sem,wr_i64,if_yes,if_no,↓reduceIte,reduceAdd,reduceMul,reduceEqDiff,Nat.reduceBEq,reduceLeDiff,length_map,big,Nat.zero_add];rfl) ?_|refine st_nil ?_|refine st_ret ?_)
    simp (disch:=omega) only[AEnd,Try.results20,aresK,fin,go_sem,↓reduceIte,reduceEqDiff,reduceAdd,reduceLeDiff,if_yes,if_no,implies_true,true_and,and_true,List.reverse_cons,List.reverse_nil]
  · rintro v h' hall hclk ⟨rfl,rfl⟩
    refine ⟨(h.tick (h.clk+1+1)).put (h.clk+1,5) (some ⟨4,l.map Rn.row⟩),fun b k hbk=>?_,fun _ _ e=>e,Nat.le_refl _,_,_,rfl,by show h.clk≤h.clk+1;omega,by show h.clk+1 < h.clk+1+1;omega,rfl⟩
    simp only[AH.put,AH.tick,upd_apply] at hbk ⊢
    split at hbk
    · rename_i e;rw [if_pos e];exact hbk
    · rename_i e
      rw [if_neg e]
      have:=hall b k hbk
      rw [if_neg (fun e'=>by rw [e'] at this;exact absurd this (by show ¬ h.clk+1 < h.clk;omega))]
      exact hbk
structure PvS where
  m:Int
  bb:Bool
  x:Int
  g:AH
theorem law13 (l:List Int) (at_ how:Int) (hl:(l.length:Int)≤9223372036854775807) (hat:I64 at_) (hhow:I64 how) (h:AH):ACalls Try.prog 13 [.lst 1 (l.map iv),.int .i64 at_,.int .i64 how] h (fun v _=>v=.bool true):=by
  refine ACalls.ofS tab Try.call13 Try.func13 rfl (fi:=⟨155,[8],[119,1000018],none,[(16,[0,0,3,0,0,16,56,127,255],[(0,false),(1,false),(2,false),(3,false),(4,false),(5,false),(6,false),(7,false),(8,false)])]⟩) rfl rfl (Nat.le_of_ble_eq_true rfl) ?_
  unfold startA
  refine asem_seq (fi:=⟨155,[8],[119,1000018],none,[(16,[0,0,3,0,0,16,56,127,255],[(0,false),(1,false),(2,false),(3,false),(4,false),(5,false),(6,false),(7,false),(8,false)])]⟩) tab mixed (by decide) ?_
  repeat' (first|refine st_reg rfl (by first|(simp only[go_sem];rfl)|rfl) (by first|(simp only[go_sem];rfl)|rfl) ?_|refine st_op ?_|refine st_det rfl (by simp (disch:=omega) only[go_sem,wr_i64,if_yes,if_no,↓reduceIte,reduceAdd,reduceMul,reduceEqDiff,Nat.reduceBEq,reduceLeDiff];rfl) ?_|refine st_nil ?_|refine st_tN ?_)
  refine asem_seq (fi:=⟨155,[8],[119,1000018],none,[(16,[0,0,3,0,0,16,56,127,255],[(0,false),(1,false),(2,false),(3,false),(4,false),(5,false),(6,false),(7,false),(8,false)])]⟩) tab mixed (by decide) ?_
  repeat' (first|refine st_reg rfl (by first|(simp only[go_sem];rfl)|rfl) (by first|(simp only[go_sem];rfl)|rfl) ?_|refine st_op ?_|refine st_det rfl (by simp (disch:=omega) only[go_sem,wr_i64,if_yes,if_no,↓reduceIte,reduceAdd,reduceMul,reduceEqDiff,Nat.reduceBEq,reduceLeDiff];rfl) ?_|(refine st_callf rfl rfl (c16 l hl _) ?_;rintro v h' ⟨b,x,n,rfl,hb1,hb2,hu0,rfl⟩)|refine st_nil ?_|refine st_tN ?_)
  refine asem_seq (fi:=⟨155,[8],[119,1000018],none,[(16,[0,0,3,0,0,16,56,127,255],[(0,false),(1,false),(2,false),(3,false),(4,false),(5,false),(6,false),(7,false),(8,false)])]⟩) tab mixed (by decide) ?_
  repeat' (first|refine st_reg rfl (by first|(simp only[go_sem];rfl)|rfl) (by first|(simp only[go_sem];rfl)|rfl) ?_|refine st_op ?_|refine st_det rfl (by simp (disch:=omega) only[go_sem,wr_i64,if_yes,if_no,↓reduceIte,reduceAdd,reduceMul,reduceEqDiff,Nat.reduceBEq,reduceLeDiff];rfl) ?_|refine st_loc rfl (by simp (disch:=omega) only[go_sem,wr_i64,if_yes,if_no,↓reduceIte,reduceAdd,reduceMul,reduceEqDiff,Nat.reduceBEq,reduceLeDiff];rfl) ?_|refine st_store (by simp (disch:=omega) only[go_sem,wr_i64,if_yes,if_no,↓reduceIte,reduceAdd,reduceMul,reduceEqDiff,Nat.reduceBEq,reduceLeDiff];rfl) ?_|(refine st_drum (by first|(simp (disch:=omega) only[go_sem];rfl)|rfl) rfl (c17 b 4 5 5 (by decide) (by decide) (by decide)) (by first|(simp (disch:=omega) only[go_sem];rfl)|rfl) (by assumption) (by first|(simp only[go_sem];rfl)|rfl) (by intro x' n;first|(simp (disch:=omega) only[go_sem];rfl)|rfl) ?_;rintro v x' n hu' ⟨t,rfl,hG⟩ hn)|refine st_nil ?_|refine st_tN ?_)
  have hT:=hG.ok (by decide) (by decide) (by decide)
  have h0:=chkE_ok hT
  have hsn:=hG.sn
  obtain ⟨A,e5,k36,hk36⟩:=close_two h0
  have hAl:A.length≤t.sts.length:=by
    rcases hk36 with ⟨_,hA⟩|⟨_,rfl,_⟩
    · unfold clo chsAll at hA
      obtain ⟨m,hm,hA2⟩:=mem_catN.1 (List.mem_of_find?_eq_some hA)
      have:=(chs_ok (t:=t) m 0 A hA2).1
      rw [Nat.min_self] at hm;omega
    · exact Nat.zero_le _
  have he5:e5=0 ∨ e5=7:=by rcases hk36 with ⟨e,_⟩|⟨e,_⟩ <;> simp [e]
  rename_i N8
  refine asem_seq (fi:=⟨155,[8],[119,1000018],none,[(16,[0,0,3,0,0,16,56,127,255],[(0,false),(1,false),(2,false),(3,false),(4,false),(5,false),(6,false),(7,false),(8,false)])]⟩) tab mixed (by decide) ?_
  repeat' (first|refine st_reg rfl (by first|(simp only[go_sem];rfl)|rfl) (by first|(simp only[go_sem];rfl)|rfl) ?_|refine st_op ?_|refine st_det rfl (by simp (disch:=omega) only[go_sem,wr_i64,if_yes,if_no,↓reduceIte,reduceAdd,reduceMul,reduceEqDiff,Nat.reduceBEq,reduceLeDiff];rfl) ?_|(refine st_pureE (by first|(simp (disch:=omega) only[go_sem];rfl)|rfl) rfl (k36) (by first|(simp only[go_sem];rfl)|rfl) (by intro n;first|(simp (disch:=omega) only[go_sem];rfl)|rfl) ?_;intro n hn)|refine st_nil ?_|refine st_tN ?_)
  refine asem_seq (fi:=⟨155,[8],[119,1000018],none,[(16,[0,0,3,0,0,16,56,127,255],[(0,false),(1,false),(2,false),(3,false),(4,false),(5,false),(6,false),(7,false),(8,false)])]⟩) tab mixed (by decide) ?_
  repeat' (first|refine st_reg rfl (by first|(simp only[go_sem,length_map];rfl)|rfl) (by first|(simp only[go_sem,length_map];rfl)|rfl) ?_|refine st_op ?_|refine st_det rfl (by simp (disch:=omega) only[go_sem,wr_i64,if_yes,if_no,↓reduceIte,reduceAdd,reduceMul,reduceEqDiff,Nat.reduceBEq,reduceLeDiff,length_map];rfl) ?_|(refine st_drum (by first|(simp (disch:=omega) only[go_sem,length_map];rfl)|rfl) rfl (c18' b (t.sts.length+1:Int) (by omega)) (by first|(simp (disch:=omega) only[go_sem,length_map];rfl)|rfl) (by assumption) (by first|(simp only[go_sem,length_map];rfl)|rfl) (by intro x' n;first|(simp (disch:=omega) only[go_sem];rfl)|rfl) ?_;rintro v x' n hu' ⟨r,rfl,hr⟩ hn)|refine st_nil ?_|refine st_tN ?_)
  refine asem_cutL (α:=PvS) (fi:=⟨155,[8],[119,1000018],none,[(16,[0,0,3,0,0,16,56,127,255],[(0,false),(1,false),(2,false),(3,false),(4,false),(5,false),(6,false),(7,false),(8,false)])]⟩) tab mixed (fun a=>[(1,.int .i64 at_),(2,.int .i64 how),(8,.lptr (N8,8) 0),(9,.lst 1 (A.map iv)),(10,.int .i64 e5),(11,.int .i64 a.m)]) (fun _=>[((N8,8),t.cells)]) (fun a=>a.g) (fun a=>0≤a.m∧a.m≤t.sts.length) (by decide) ?_ ?_
  · rcases he5 with rfl|rfl
    · by_cases hA0:0 < A.length
      · repeat' (first|refine st_seq_reg rfl (by first|(simp only[go_sem,length_map];rfl)|rfl) (by first|(simp only[go_sem,length_map];rfl)|rfl) ?_|refine st_reg rfl (by first|(simp only[go_sem,length_map];rfl)|rfl) (by first|(simp only[go_sem,length_map];rfl)|rfl) ?_|refine st_op ?_|refine st_det rfl (by simp (disch:=omega) only[go_sem,wr_i64,if_yes,if_no,↓reduceIte,reduceAdd,reduceMul,reduceEqDiff,Nat.reduceBEq,reduceLeDiff,length_map];rfl) ?_|(refine st_drum (by first|(simp (disch:=omega) only[go_sem,length_map];rfl)|rfl) rfl (c43 b 2 (by decide)) (by first|(simp (disch:=omega) only[go_sem,length_map];rfl)|rfl) (by assumption) (by first|(simp only[go_sem,length_map];rfl)|rfl) (by intro x' n;first|(simp (disch:=omega) only[go_sem];rfl)|rfl) ?_;rintro v x' n hu' ⟨r2,rfl⟩ hn)|refine st_gT rfl rfl rfl ?_|refine st_gF rfl rfl rfl ?_|(refine st_gS rfl rfl ?_ ?_ <;> intro hg <;> (try simp only[decide_eq_true_eq,decide_eq_false_iff_not,Bool.not_eq_true',Bool.not_eq_false'] at hg))|refine st_condF rfl ?_|(refine st_condS rfl ?_ ?_ <;> intro hg <;> (try simp only[decide_eq_true_eq,decide_eq_false_iff_not,Bool.not_eq_true',Bool.not_eq_false'] at hg))|refine st_nil ?_|refine st_tN ?_|refine st_skip ?_)
        all_goals try (exfalso;omega)
        · refine ⟨⟨(A.length:Int) - 1,false,0,_⟩,⟨by show (0:Int)≤(A.length:Int) - 1;omega,by show (A.length:Int) - 1≤t.sts.length;omega⟩,(by repeat' (first|exact trivial|refine And.intro ?_ ?_|rfl|(simp (disch:=omega) only[go_sem,if_yes,if_no,↓reduceIte,reduceAdd,reduceMul,reduceEqDiff,Nat.reduceBEq,reduceLeDiff];rfl)|(simp (disch:=omega) only[go_sem,if_yes,if_no,↓reduceIte,reduceAdd,reduceMul,reduceEqDiff,Nat.reduceBEq,reduceLeDiff]))),(by repeat' (first|exact trivial|refine And.intro ?_ ?_|rfl|(simp (disch:=omega) only[go_sem,if_yes,if_no,↓reduceIte,reduceAdd,reduceMul,reduceEqDiff,Nat.reduceBEq,reduceLeDiff];rfl)|(simp (disch:=omega) only[go_sem,if_yes,if_no,↓reduceIte,reduceAdd,reduceMul,reduceEqDiff,Nat.reduceBEq,reduceLeDiff]))),rfl,HOld.refl _⟩
        · refine ⟨⟨r,false,0,_⟩,⟨by show 0≤r;omega,by show r≤t.sts.length;omega⟩,(by repeat' (first|exact trivial|refine And.intro ?_ ?_|rfl|(simp (disch:=omega) only[go_sem,if_yes,if_no,↓reduceIte,reduceAdd,reduceMul,reduceEqDiff,Nat.reduceBEq,reduceLeDiff];rfl)|(simp (disch:=omega) only[go_sem,if_yes,if_no,↓reduceIte,reduceAdd,reduceMul,reduceEqDiff,Nat.reduceBEq,reduceLeDiff]))),(by repeat' (first|exact trivial|refine And.intro ?_ ?_|rfl|(simp (disch:=omega) only[go_sem,if_yes,if_no,↓reduceIte,reduceAdd,reduceMul,reduceEqDiff,Nat.reduceBEq,reduceLeDiff];rfl)|(simp (disch:=omega) only[go_sem,if_yes,if_no,↓reduceIte,reduceAdd,reduceMul,reduceEqDiff,Nat.reduceBEq,reduceLeDiff]))),rfl,HOld.refl _⟩
      · repeat' (first|refine st_seq_reg rfl (by first|(simp only[go_sem,length_map];rfl)|rfl) (by first|(simp only[go_sem,length_map];rfl)|rfl) ?_|refine st_op ?_|refine st_det rfl (by simp (disch:=omega) only[go_sem,wr_i64,if_yes,if_no,↓reduceIte,reduceAdd,reduceMul,reduceEqDiff,Nat.reduceBEq,reduceLeDiff,length_map];rfl) ?_|refine st_gT rfl rfl rfl ?_|refine st_gF rfl rfl rfl ?_|(refine st_gS rfl rfl ?_ ?_ <;> intro hg <;> (try simp only[decide_eq_true_eq,decide_eq_false_iff_not,Bool.not_eq_true',Bool.not_eq_false'] at hg))|refine st_condF rfl ?_|refine st_nil ?_|refine st_tN ?_|refine st_skip ?_)
        all_goals try (exfalso;omega)
        all_goals
          refine ⟨⟨r,false,0,_⟩,⟨by show 0≤r;omega,by show r≤t.sts.length;omega⟩,(by repeat' (first|exact trivial|refine And.intro ?_ ?_|rfl|(simp (disch:=omega) only[go_sem,if_yes,if_no,↓reduceIte,reduceAdd,reduceMul,reduceEqDiff,Nat.reduceBEq,reduceLeDiff];rfl)|(simp (disch:=omega) only[go_sem,if_yes,if_no,↓reduceIte,reduceAdd,reduceMul,reduceEqDiff,Nat.reduceBEq,reduceLeDiff]))),(by repeat' (first|exact trivial|refine And.intro ?_ ?_|rfl|(simp (disch:=omega) only[go_sem,if_yes,if_no,↓reduceIte,reduceAdd,reduceMul,reduceEqDiff,Nat.reduceBEq,reduceLeDiff];rfl)|(simp (disch:=omega) only[go_sem,if_yes,if_no,↓reduceIte,reduceAdd,reduceMul,reduceEqDiff,Nat.reduceBEq,reduceLeDiff]))),rfl,HOld.refl _⟩
    · repeat' (first|refine st_seq_reg rfl (by first|(simp only[go_sem,length_map];rfl)|rfl) (by first|(simp only[go_sem,length_map];rfl)|rfl) ?_|refine st_op ?_|refine st_det rfl (by simp (disch:=omega) only[go_sem,wr_i64,if_yes,if_no,↓reduceIte,reduceAdd,reduceMul,reduceEqDiff,Nat.reduceBEq,reduceLeDiff,length_map];rfl) ?_|refine st_gF rfl rfl rfl ?_|refine st_condF rfl ?_|refine st_nil ?_|refine st_tN ?_|refine st_skip ?_)
      all_goals try (exfalso;omega)
      all_goals
        refine ⟨⟨r,false,0,_⟩,⟨by show 0≤r;omega,by show r≤t.sts.length;omega⟩,(by repeat' (first|exact trivial|refine And.intro ?_ ?_|rfl|(simp (disch:=omega) only[go_sem,if_yes,if_no,↓reduceIte,reduceAdd,reduceMul,reduceEqDiff,Nat.reduceBEq,reduceLeDiff];rfl)|(simp (disch:=omega) only[go_sem,if_yes,if_no,↓reduceIte,reduceAdd,reduceMul,reduceEqDiff,Nat.reduceBEq,reduceLeDiff]))),(by repeat' (first|exact trivial|refine And.intro ?_ ?_|rfl|(simp (disch:=omega) only[go_sem,if_yes,if_no,↓reduceIte,reduceAdd,reduceMul,reduceEqDiff,Nat.reduceBEq,reduceLeDiff];rfl)|(simp (disch:=omega) only[go_sem,if_yes,if_no,↓reduceIte,reduceAdd,reduceMul,reduceEqDiff,Nat.reduceBEq,reduceLeDiff]))),rfl,HOld.refl _⟩
  rintro ⟨m,_,_,g2⟩ d2 ⟨hm1,hm2⟩ hd2
  dsimp only at hm1 hm2 hd2
  simp only[go_sem]
  obtain ⟨M,rfl⟩:∃ f:Nat,m=f:=⟨m.toNat,by omega⟩
  have hMS:M≤t.sts.length:=by omega
  have k58:=c58 t (M:Nat) (fun _=>by omega)
  have hPV:proveV t (M:Nat)=prvV t M:=by
    unfold proveV;rw [if_neg (fun e=>e h0),if_neg (fun e=>e ⟨by omega,by omega⟩)];rfl
  rw [hPV] at k58
  have hcut:=clo_cut hMS
  have k15:=c15
  by_cases hle:e5=0∧A.length≤M
  · obtain ⟨rfl,hAM⟩:=hle
    have hcA:clo t M=some A:=by
      rcases hk36 with ⟨_,hA⟩|⟨e,_⟩
      · exact hcut.1 A hA hAM
      · cases e
    have hV:prvV t M=.tup [.lst 4 [],.int .i64 7]:=by unfold prvV;rw [hcA]
    rw [hV] at k58
    refine asem_awp (fi:=⟨155,[8],[119,1000018],none,[(16,[0,0,3,0,0,16,56,127,255],[(0,false),(1,false),(2,false),(3,false),(4,false),(5,false),(6,false),(7,false),(8,false)])]⟩) tab mixed (by decide) ?_
    unfold Tw.cells
    repeat' (first|refine st_seq_reg rfl (by first|(simp only[go_sem,length_map];rfl)|rfl) (by first|(simp only[go_sem,length_map];rfl)|rfl) ?_|refine st_op ?_|refine st_det rfl (by simp (disch:=omega) only[go_sem,wr_i64,if_yes,if_no,↓reduceIte,reduceAdd,reduceMul,reduceEqDiff,Nat.reduceBEq,reduceLeDiff,length_map];rfl) ?_|(refine st_pureE (by first|(simp (disch:=omega) only[go_sem,length_map];rfl)|rfl) rfl (k58) (by first|(simp only[go_sem,length_map];rfl)|rfl) (by intro n;first|(simp (disch:=omega) only[go_sem];rfl)|rfl) ?_;intro n hn)|(refine st_pureE (by first|(simp (disch:=omega) only[go_sem,length_map];rfl)|rfl) rfl (k15) (by first|(simp only[go_sem,length_map];rfl)|rfl) (by intro n;first|(simp (disch:=omega) only[go_sem];rfl)|rfl) ?_;intro n hn)|refine st_gT rfl rfl rfl ?_|(refine st_condS rfl ?_ ?_ <;> intro hg <;> (try simp only[decide_eq_true_eq,decide_eq_false_iff_not,Bool.not_eq_true',Bool.not_eq_false'] at hg))|refine st_nil ?_|refine st_tN ?_|refine st_seq ?_|refine st_skip ?_|refine st_ret ?_|refine st_tR ?_)
    all_goals try (exfalso;omega)
    all_goals
      simp (disch:=omega) only[AEnd,Try.results13,aresK,fin,go_sem,↓reduceIte,reduceEqDiff,reduceAdd,reduceLeDiff,if_yes,if_no,implies_true,true_and,and_true,List.reverse_cons,List.reverse_nil]
      try (simp [noL];done)
  have hcN:clo t M=none:=by
    rcases hk36 with ⟨e,hA⟩|⟨_,_,hA⟩
    · exact hcut.2.1 A hA (by have:=fun q=>hle ⟨e,q⟩;omega)
    · exact hcut.2.2 hA
  have hV:prvV t M=.tup [.lst 4 ((prv t (M:Nat) (t.sts.length+1) (List.replicate t.sts.length 0)).map Rn.row),.int .i64 0]:=by unfold prvV;rw [hcN]
  rw [hV] at k58
  have hp1:=pvd_prv (fun s a b c=>clo_none hT hcN a b c) (t.sts.length+1) (List.replicate t.sts.length 0) [] (ok94_zero t (M:Nat)) (by rw [cntZ_rep];omega)
  rw [List.append_nil] at hp1
  have hpl:=prv_len t (M:Nat) (t.sts.length+1) (List.replicate t.sts.length 0)
  have h2:(2:Nat) ^ (t.sts.length+1)≤2 ^ 6:=Nat.pow_le_pow_right (by decide) (by omega)
  generalize prv t (M:Nat) (t.sts.length+1) (List.replicate t.sts.length 0)=p at *
  have hp0:0 < p.length:=by
    cases p with
    | nil=>cases hp1
    | cons _ _=>exact Nat.zero_lt_succ _
  have hpv:∀ (q:List Rn) (m:Nat),m≤12→provedV t (m:Nat) q=.tup [.bool (provedB t (m:Nat) q),.int .i64 0]:=fun q m hm=>by
    unfold provedV;rw [if_neg (fun e=>e h0),if_neg (fun e=>e ⟨by omega,by omega⟩)]
  have k1:=c23 t (M:Nat) p (by omega)
  rw [hpv p M (by omega),show provedB t (M:Nat) p=true from decide_eq_true hp1] at k1
  have k3:=c23 t (t.sts.length:Nat) p (by omega)
  rw [hpv p t.sts.length (by omega)] at k3
  have hmore:provedB t (t.sts.length:Nat) p=true→e5=7:=fun e=>by
    have:=proved_none hT e
    rcases hk36 with ⟨_,hA⟩|⟨e,_⟩
    · rw [this] at hA;cases hA
    · exact e
  generalize provedB t (t.sts.length:Nat) p=mr at *
  have k21:=c21 at_ (p.length:Int) (by omega) hat
  have hf1:=fitV_bd (x:=at_) (n:=(p.length:Int)) (by omega)
  obtain ⟨j,hj⟩:∃ j:Nat,fitV at_ (p.length:Int)=j:=⟨(fitV at_ (p.length:Int)).toNat,by omega⟩
  rw [hj] at k21 hf1
  have hjp:j < p.length:=by omega
  have k21b:=c21 how 2 (by decide) hhow
  have hf2:=fitV_bd (x:=how) (n:=2) (by decide)
  generalize fitV how 2=f2 at *
  have hs1:=spoilt_less hp1 hjp
  have hs2:=spoilt_more hp1 (rn p j)
  have hj1:((j:Int)+1).toNat=j+1:=by omega
  have hjd:List.take (p.length - (j+1)) (List.drop (j+1) (List.map Rn.row p))=(p.drop (j+1)).map Rn.row:=by
    rw [← List.map_drop,List.take_of_length_le (by simp)]
  have k2:∀ q:List Rn,q.length≤1000→pvd t (M:Nat) (t.sts.length+1) (List.replicate t.sts.length 0) q ≠ some []→Pure Try.prog 23 [t.av,.int .i64 (M:Nat),.lst 4 (q.map Rn.row)] (fun v=>v=.tup [.bool false,.int .i64 0]):=fun q hq hne=>by
    have k:=c23 t (M:Nat) q (by omega)
    rw [hpv q M (by omega),show provedB t (M:Nat) q=false from decide_eq_false hne] at k
    exact k
  have k2a:=k2 (p.take j ++ p.drop (j+1)) (by simp;omega) hs1
  have k2b:=k2 (p ++ [rn p j]) (by simp;omega) hs2
  have hl16:j+(p.length - (j+1))=((p.take j ++ p.drop (j+1)).map Rn.row).length:=by simp;omega
  have hl16':j+(p.length - (j+1))=(p.take j ++ p.drop (j+1)).length:=by simp;omega
  have hl17:p.length+1=((p ++ [rn p j]).map Rn.row).length:=by simp
  have hl17':p.length+1=(p ++ [rn p j]).length:=by simp
  refine asem_awp (fi:=⟨155,[8],[119,1000018],none,[(16,[0,0,3,0,0,16,56,127,255],[(0,false),(1,false),(2,false),(3,false),(4,false),(5,false),(6,false),(7,false),(8,false)])]⟩) tab mixed (by decide) ?_
  unfold Tw.cells
  repeat' (first|refine st_seq_reg rfl (by first|(simp only[go_sem,length_map,big,not_true_eq_false,decide_false,Bool.false_eq_true,hj1,hjd,Int.toNat_zero,Nat.sub_zero,Nat.zero_add,List.length_drop];rfl)|rfl) (by first|(simp only[go_sem,length_map,big,not_true_eq_false,decide_false,Bool.false_eq_true,hj1,hjd,Int.toNat_zero,Nat.sub_zero,Nat.zero_add,List.length_drop];rfl)|rfl) ?_|refine st_reg rfl (by first|(simp only[go_sem,length_map,big,not_true_eq_false,decide_false,Bool.false_eq_true,hj1,hjd,Int.toNat_zero,Nat.sub_zero,Nat.zero_add,List.length_drop];rfl)|rfl) (by first|(simp only[go_sem,length_map,big,not_true_eq_false,decide_false,Bool.false_eq_true,hj1,hjd,Int.toNat_zero,Nat.sub_zero,Nat.zero_add,List.length_drop];rfl)|rfl) ?_|refine st_draw rfl (by first|(simp only[go_sem,length_map,big,not_true_eq_false,decide_false,Bool.false_eq_true,hj1,hjd,Int.toNat_zero,Nat.sub_zero,Nat.zero_add,List.length_drop];rfl)|rfl) (by first|(simp only[go_sem,length_map,big,not_true_eq_false,decide_false,Bool.false_eq_true,hj1,hjd,Int.toNat_zero,Nat.sub_zero,Nat.zero_add,List.length_drop];rfl)|rfl) ?_|refine st_op ?_|refine st_det rfl (by simp (disch:=omega) only[go_sem,wr_i64,if_yes,if_no,↓reduceIte,reduceAdd,reduceMul,reduceEqDiff,Nat.reduceBEq,reduceLeDiff,length_map,big,not_true_eq_false,decide_false,Bool.false_eq_true,hj1,hjd,Int.toNat_zero,Nat.sub_zero,Nat.zero_add,List.length_drop];rfl) ?_|refine st_dop rfl ?_|refine st_append (by simp (disch:=omega) only[go_sem,wr_i64,if_yes,if_no,↓reduceIte,reduceAdd,reduceMul,reduceEqDiff,Nat.reduceBEq,reduceLeDiff,length_map,big,not_true_eq_false,decide_false,Bool.false_eq_true,hj1,hjd,Int.toNat_zero,Nat.sub_zero,Nat.zero_add,List.length_drop];rfl) ?_|(refine st_pureE (by first|(simp (disch:=omega) only[go_sem,length_map,big,not_true_eq_false,decide_false,Bool.false_eq_true,hj1,hjd,Int.toNat_zero,Nat.sub_zero,Nat.zero_add,List.length_drop];rfl)|rfl) rfl (k58) (by first|(simp only[go_sem,length_map,big,not_true_eq_false,decide_false,Bool.false_eq_true,hj1,hjd,Int.toNat_zero,Nat.sub_zero,Nat.zero_add,List.length_drop];rfl)|rfl) (by intro n;first|(simp (disch:=omega) only[go_sem];rfl)|rfl) ?_;intro n hn)|(refine st_pureE (by first|(simp (disch:=omega) only[go_sem,length_map,big,not_true_eq_false,decide_false,Bool.false_eq_true,hj1,hjd,Int.toNat_zero,Nat.sub_zero,Nat.zero_add,List.length_drop];rfl)|rfl) rfl (k1) (by first|(simp only[go_sem,length_map,big,not_true_eq_false,decide_false,Bool.false_eq_true,hj1,hjd,Int.toNat_zero,Nat.sub_zero,Nat.zero_add,List.length_drop];rfl)|rfl) (by intro n;first|(simp (disch:=omega) only[go_sem];rfl)|rfl) ?_;intro n hn)|(refine st_pureE (by first|(simp (disch:=omega) only[go_sem,length_map,big,not_true_eq_false,decide_false,Bool.false_eq_true,hj1,hjd,Int.toNat_zero,Nat.sub_zero,Nat.zero_add,List.length_drop];rfl)|rfl) rfl (k21) (by first|(simp only[go_sem,length_map,big,not_true_eq_false,decide_false,Bool.false_eq_true,hj1,hjd,Int.toNat_zero,Nat.sub_zero,Nat.zero_add,List.length_drop];rfl)|rfl) (by intro n;first|(simp (disch:=omega) only[go_sem];rfl)|rfl) ?_;intro n hn)|(refine st_pureE (by first|(simp (disch:=omega) only[go_sem,length_map,big,not_true_eq_false,decide_false,Bool.false_eq_true,hj1,hjd,Int.toNat_zero,Nat.sub_zero,Nat.zero_add,List.length_drop];rfl)|rfl) rfl (k21b) (by first|(simp only[go_sem,length_map,big,not_true_eq_false,decide_false,Bool.false_eq_true,hj1,hjd,Int.toNat_zero,Nat.sub_zero,Nat.zero_add,List.length_drop];rfl)|rfl) (by intro n;first|(simp (disch:=omega) only[go_sem];rfl)|rfl) ?_;intro n hn)|(refine st_callf rfl rfl (c20h p (by omega) _) ?_;rintro v h3 ⟨b3,n3,rfl,hb3,hn3,rfl⟩)|refine st_gT rfl rfl rfl ?_|refine st_gF rfl rfl rfl ?_|(refine st_gS rfl rfl ?_ ?_ <;> intro hg <;> (try simp only[decide_eq_true_eq,decide_eq_false_iff_not,Bool.not_eq_true',Bool.not_eq_false'] at hg))|refine st_condF rfl ?_|(refine st_condS rfl ?_ ?_ <;> intro hg <;> (try simp only[decide_eq_true_eq,decide_eq_false_iff_not,Bool.not_eq_true',Bool.not_eq_false'] at hg))|refine st_nil ?_|refine st_dnil ?_|refine st_tN ?_|refine st_seq ?_|refine st_skip ?_|refine st_ret ?_|refine st_tR ?_)
  all_goals try (exfalso;omega)
  all_goals refine st_free ?_
  all_goals first
    | refine ASem.cutK 17 4 ((p.take j ++ p.drop (j+1)).map Rn.row) (.inr ⟨(n,113),by simp only[go_sem,↓reduceIte,reduceEqDiff];first|exact congrArg (AV.slc _ 4 0) hl16|exact congrArg (AV.slc _ 4 0) hl16',by simp only[go_sem,↓reduceIte];rw [List.map_append,List.map_take]⟩) fun H1 _ _ _=>?_
    | refine ASem.cutK 17 4 ((p ++ [rn p j]).map Rn.row) (.inr ⟨(n,120),by simp only[go_sem,↓reduceIte,reduceEqDiff];first|exact congrArg (AV.slc _ 4 0) hl17|exact congrArg (AV.slc _ 4 0) hl17',by simp only[go_sem,↓reduceIte];rw [List.map_append,List.take_of_length_le (by simp)];rfl⟩) fun H1 _ _ _=>?_
  clear hl16 hl16' hl17 hl17' hjd hj1 k2 hs1 hs2 hp1 hpl hpv
  all_goals
    refine st_run tab mixed (f2:=⟨155,[8],[119],none,[(16,[0,0,3,0,0,16,56,127,255],[(0,false),(1,false),(2,false),(3,false),(4,false),(5,false),(6,false),(7,false),(8,false)])]⟩) rfl rfl (by decide) ?_
    repeat' (first|refine st_seq_reg rfl (by first|(simp only[go_sem,length_map,not_true_eq_false,decide_false,Bool.false_eq_true];rfl)|rfl) (by first|(simp only[go_sem,length_map,not_true_eq_false,decide_false,Bool.false_eq_true];rfl)|rfl) ?_|refine st_reg rfl (by first|(simp only[go_sem,length_map,not_true_eq_false,decide_false,Bool.false_eq_true];rfl)|rfl) (by first|(simp only[go_sem,length_map,not_true_eq_false,decide_false,Bool.false_eq_true];rfl)|rfl) ?_|refine st_op ?_|refine st_det rfl (by simp (disch:=omega) only[go_sem,wr_i64,if_yes,if_no,↓reduceIte,reduceAdd,reduceMul,reduceEqDiff,Nat.reduceBEq,reduceLeDiff,length_map,not_true_eq_false,decide_false,Bool.false_eq_true];rfl) ?_|(refine st_pureE (by first|(simp (disch:=omega) only[go_sem,length_map,not_true_eq_false,decide_false,Bool.false_eq_true];rfl)|rfl) rfl (k2a) (by first|(simp only[go_sem,length_map,not_true_eq_false,decide_false,Bool.false_eq_true];rfl)|rfl) (by intro n;first|(simp (disch:=omega) only[go_sem];rfl)|rfl) ?_;intro n hn)|(refine st_pureE (by first|(simp (disch:=omega) only[go_sem,length_map,not_true_eq_false,decide_false,Bool.false_eq_true];rfl)|rfl) rfl (k2b) (by first|(simp only[go_sem,length_map,not_true_eq_false,decide_false,Bool.false_eq_true];rfl)|rfl) (by intro n;first|(simp (disch:=omega) only[go_sem];rfl)|rfl) ?_;intro n hn)|(refine st_pureE (by first|(simp (disch:=omega) only[go_sem,length_map,not_true_eq_false,decide_false,Bool.false_eq_true];rfl)|rfl) rfl (k3) (by first|(simp only[go_sem,length_map,not_true_eq_false,decide_false,Bool.false_eq_true];rfl)|rfl) (by intro n;first|(simp (disch:=omega) only[go_sem];rfl)|rfl) ?_;intro n hn)|(refine st_pureE (by first|(simp (disch:=omega) only[go_sem,length_map,not_true_eq_false,decide_false,Bool.false_eq_true];rfl)|rfl) rfl (k15) (by first|(simp only[go_sem,length_map,not_true_eq_false,decide_false,Bool.false_eq_true];rfl)|rfl) (by intro n;first|(simp (disch:=omega) only[go_sem];rfl)|rfl) ?_;intro n hn)|refine st_gT rfl rfl rfl ?_|refine st_gF rfl rfl rfl ?_|(refine st_gS rfl rfl ?_ ?_ <;> intro hg <;> (try simp only[decide_eq_true_eq,decide_eq_false_iff_not,Bool.not_eq_true',Bool.not_eq_false'] at hg))|refine st_condF rfl ?_|refine st_nil ?_|refine st_tN ?_|refine st_seq ?_|refine st_skip ?_|refine st_ret ?_)
    all_goals try (exfalso;omega)
    all_goals try (exfalso;have h7:=hmore (by assumption);omega)
    all_goals
      simp (disch:=omega) only[AEnd,Try.results13,aresK,fin,go_sem,↓reduceIte,reduceEqDiff,reduceAdd,reduceLeDiff,if_yes,if_no,implies_true,true_and,and_true,List.reverse_cons,List.reverse_nil]
      try (simp [noL,hmore];done)
end Go.Proofs.Ythjbfdfhblloiaa

namespace Go.Proofs.Ythjbfdfhblloiaa.crowdProvedDone
open Go.Av Go.Proofs.Ythjbfdfhblloiaa
open Go.ChangeShapes Go.WideShapes Go.ChangeAt Go.RowKit
set_option linter.unusedVariables false
theorem own:ownKnob Try.prog.godebug=none:=by kernel_rfl
theorem laidOut:laidOutB Try.prog=true:=by kernel_rfl
theorem walk (l0:List Int) (p1:Int) (p2:Int) (h0:l0.length≤maxLen) (h1:I64 p1) (h2:I64 p2) (w:World) {v0 v1 v2:Value}
    (k0:VR (c00 w) (.lst 1 (l0.map iv)) v0) (k1:VR (c00 w) (.int .i64 p1) v1) (k2:VR (c00 w) (.int .i64 p2) v2) :
    Calls Try.prog 13 #[v0,v1,v2] w fun e w'=>e=.returned (.bool true)∧Below w.heap.size w w':=by
  have e0:(l0.length:Int)≤(maxLen:Nat):=Int.ofNat_le.2 h0
  exact ACalls.walk (law13 l0 p1 p2 e0 h1 h2 h00) (VRs.cons k0 (VRs.cons k1 (VRs.cons k2 VRs.nil)))
set_option maxRecDepth 100000 in
theorem lifted (os:Os) (started:os.Started) (H:Type) (enc:TypeId × Value→H) :
    ReturnsInHanded {} Try.checked os 13 .any (Rows.crowdProvedSpec.pre6 enc Try.prog Try.f13 Rows.crowdProvedRow.domain false) (Rows.crowdProvedSpec.post enc Try.prog Try.f13 false true false false):=by
  refine returnsInHanded_of_change (C:=Try.checked) own started (by kernel_rfl) Try.func13
    (ChangeSpec.witness6 (enc:=enc) (C:=Try.checked) false ⟨#[],#[.slice none 0 0,.int .i64 0,.int .i64 0],[]⟩ 8 (by kernel_rfl) (by kernel_rfl) (by kernel_rfl) (by kernel_rfl)) ?_
  intro W base args ds gs before hval0 hW hcnd _
  have hval:∀ (j:Nat) t v,Try.f13.params[j]?=some t→args[j]?=some v→Value.okWide Try.prog W .any base t v:=hval0
  have hW':=hW
  obtain ⟨p,q,hA0,hV,rfl,hfz,hnd⟩:=hW
  have hA:DataW.TrodAll enc Try.prog W 0 (fun _=>true) true Try.f13.params.toList args.toList ds p:=hA0
  rw [Try.params13] at hA hval
  obtain ⟨v0,vs0,d0,ds0,p0,q0,hargs0,rfl,rfl,k0,r0⟩:=trodAll_cons hA
  obtain ⟨v1,vs1,d1,ds1,p1,q1,hargs1,rfl,rfl,k1,r1⟩:=trodAll_cons r0
  obtain ⟨v2,vs2,d2,ds2,p2,q2,hargs2,rfl,rfl,k2,r2⟩:=trodAll_cons r1
  obtain ⟨rfl,rfl,rfl⟩:=trodAll_nil r2
  subst hargs2 hargs1
  obtain rfl:args=#[v0,v1,v2]:=by cases args;simp_all
  obtain ⟨rfl,rfl⟩:=trodVars_none hV
  have lt0:∀ x ∈ p0,x.block < W.heap.size:=by obtain ⟨m,hm⟩:=k0;exact DataW.trod_lt m _ _ _ hm
  have lt1:∀ x ∈ p1,x.block < W.heap.size:=by obtain ⟨m,hm⟩:=k1;exact DataW.trod_lt m _ _ _ hm
  have lt2:∀ x ∈ p2,x.block < W.heap.size:=by obtain ⟨m,hm⟩:=k2;exact DataW.trod_lt m _ _ _ hm
  have o0:=hval 0 22 v0 rfl rfl
  have o1:=hval 1 3 v1 rfl rfl
  have o2:=hval 2 3 v2 rfl rfl
  obtain ⟨a0,b0,c0,w0⟩:=okWide_slice Try.underlying22 o0
  obtain ⟨s0,u0,t0⟩:=arg_cell (d:=8) (by kernel_rfl) (by rw [w0];rfl) k0
  obtain ⟨n1,w1⟩:=okWide_int Try.underlying3 o1
  obtain ⟨s1,u1,t1⟩:=arg_cell (d:=8) (by kernel_rfl) (by rw [w1];rfl) k1
  obtain ⟨n2,w2⟩:=okWide_int Try.underlying3 o2
  obtain ⟨s2,u2,t2⟩:=arg_cell (d:=8) (by kernel_rfl) (by rw [w2];rfl) k2
  obtain ⟨l0,x0,y0⟩:=shpNums t0
  obtain ⟨p1,x1,y1⟩:=shpInt t1
  obtain ⟨p2,x2,y2⟩:=shpInt t2
  obtain rfl:s0=.lst 1 (l0.map iv):=by simpa using x0
  obtain rfl:s1=.int .i64 p1:=by simpa using x1
  obtain rfl:s2=.int .i64 p2:=by simpa using x2
  clear hA0 hval0
  refine (walk l0 p1 p2 y0 y1 y2 W u0 u1 u2).mono fun e W' ⟨he,bel⟩=>?_
  subst he
  exact ⟨_,rfl,_,_,_,[],_,[],hW',trodAll_mk1 (shut_bool Try.underlying4 _),(trodAll_cons_mk (Below.trod laidOut (by kernel_rfl) (of_decide_eq_true (by kernel_rfl)) k0 bel lt0) (trodAll_cons_mk (Below.trod laidOut (by kernel_rfl) (of_decide_eq_true (by kernel_rfl)) k1 bel lt1) (trodAll_cons_mk (Below.trod laidOut (by kernel_rfl) (of_decide_eq_true (by kernel_rfl)) k2 bel lt2) trodAll_mk0))),rfl,bel.frame _,fun h=>by cases h⟩
theorem over:Rows.crowdProvedRow.holds Try.pinned (OpenSpec.ofChange Rows.crowdProvedSpec) :=
  OpenClaim.holds_of_wide 13 Try.f13 rfl rfl rfl rfl rfl rfl rfl ⟨rfl,rfl,rfl,rfl,rfl⟩ rfl rfl rfl rfl rfl (by kernel_rfl) Try.func13 (by kernel_rfl)
    (of_decide_eq_true (by kernel_rfl)) (by unfold Func.isWrapper;first|(rw [if_pos (by decide +kernel)];kernel_rfl)|(rw [if_neg (by decide +kernel)];exact ⟨rfl,rfl⟩))
    (fun os started H enc _=>lifted os started H enc)
theorem proved:Rows.CrowdProvedSaid:=over
#print axioms proved
end Go.Proofs.Ythjbfdfhblloiaa.crowdProvedDone
