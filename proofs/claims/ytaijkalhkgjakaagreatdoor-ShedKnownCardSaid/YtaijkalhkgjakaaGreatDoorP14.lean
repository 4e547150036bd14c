/- Contracts of functions that the claim reaches: what each call gives, told in our own logic. Conditions: those of each theorem. -/
import Derived.Test.YtaijkalhkgjakaaGreatDoorG24
import Derived.Test.YtaijkalhkgjakaaGreatDoorF12
import Derived.Test.YtaijkalhkgjakaaGreatDoorP1
import Derived.Test.YtaijkalhkgjakaaGreatDoorBaseC
import Derived.Test.YtaijkalhkgjakaaGreatDoorG1
open List (length_map)
set_option linter.all false
set_option linter.unusedSimpArgs false
set_option linter.unusedVariables false
namespace Go.Proofs.YtaijkalhkgjakaaGreatDoor
open Go.Av
attribute [local irreducible] thenA blockA awp awpOps awpD awp1
attribute [local go_sem_proc] Nat.reduceAdd Nat.reduceMul Nat.reduceEqDiff Nat.reduceBEq Nat.reduceLeDiff
attribute [local go_sem_proc ↓] reduceIte
attribute [local go_sem] if_yes if_no
set_option maxHeartbeats 8000000
set_option maxRecDepth 20000
theorem jobsV_err {m:List Int} {w c p e:Int} (h:jobsErr m w c p=e) (h0:e ≠ 0):jobsV m w c p=.tup [.nils,.int .i64 e]:=by unfold jobsV;rw [h,if_pos h0]
theorem c30 (m:List Int) (w c p:Int) (hm:(m.length:Int) < 1000000):Pure Tryz.prog 30 [.lst 1 (m.map iv),.int .i64 w,.int .i64 c,.int .i64 p] (fun v=>v=jobsV m w c p):=by
 refine Pure.give Tryz.call30 fun h hold=>?_
 refine ACalls.of tab mixed Tryz.call30 Tryz.func30 rfl (fi:=⟨62,[],[32,1000015],none,[]⟩) rfl rfl (Nat.le_of_ble_eq_true rfl) (by decide) ?_
 unfold startA
 try simp only[go_sem]
 by_cases hl6:6 < m.length
 ·have e:=jobsV_err (m:=m) (w:=w) (c:=c) (p:=p) (e:=5) (by unfold jobsErr;rw [if_pos hl6]) (by decide)
  repeat' (first|refine st_seq_reg rfl (by first|(simp only[go_sem,Lm];rfl)|rfl) (by first|(simp only[go_sem,Lm];rfl)|rfl) ?_|refine st_op ?_|refine st_det rfl (by simp (disch:=omega) only[go_sem,wr_i64,Lm];rfl) ?_|(refine st_condS rfl ?_ ?_ <;> intro hg <;> (try simp only[dcT,dcF,bnT,bnF] at hg))|refine st_nil ?_|refine st_tN ?_|refine st_seq ?_|refine st_block ?_|refine st_skip ?_|refine st_ret ?_|refine st_tR ?_)
  all_goals try (exfalso;omega)
  simp (disch:=omega) only[AEnd,Tryz.results30,aresK,fin,go_sem,implies_true,true_and,and_true,List.reverse_cons,List.reverse_nil]
  exact .inl ⟨_,VLe.refl _,e.symm⟩
 repeat' (first|refine st_seq_reg rfl (by first|(simp only[go_sem,Lm];rfl)|rfl) (by first|(simp only[go_sem,Lm];rfl)|rfl) ?_|refine st_op ?_|refine st_det rfl (by simp (disch:=omega) only[go_sem,wr_i64,Lm];rfl) ?_|(refine st_condS rfl ?_ ?_ <;> intro hg <;> (try simp only[dcT,dcF,bnT,bnF] at hg))|refine st_nil ?_|refine st_tN ?_|refine st_seq ?_|refine st_block ?_|refine st_skip ?_|refine st_ret ?_|refine st_tR ?_)
 all_goals try (exfalso;omega)
 refine st_loopH (α:=Nat) tab mixed [] [] (by repeat (first|exact trivial|refine ⟨rfl,?_⟩)) [] [] (by repeat (first|exact trivial|refine ⟨rfl,?_⟩)) (fun i=>[(22,.int .i64 (i:Nat))]) [(0,_),(1,_),(2,_),(3,_),(8,_),(9,_),(20,_),(21,_)] (fun _=>[]) [] (fun _=>h) (fun i=>i≤m.length∧∀ k,k < i→-1≤m.getD k 0) (fun i=>m.length - i) (by decide) 0 ⟨Nat.zero_le _,fun k hk=>absurd hk (Nat.not_lt_zero k)⟩ (by (try simp only[go_sem]);repeat' (first|exact trivial|refine And.intro ?_ ?_|rfl|(simp (disch:=omega) only[go_sem,if_yes,if_no,if_no];rfl)|(simp (disch:=omega) only[go_sem,if_yes,if_no,if_no]))) (by (try simp only[go_sem]);repeat' (first|exact trivial|refine And.intro ?_ ?_|rfl|(simp (disch:=omega) only[go_sem,if_yes,if_no,if_no];rfl)|(simp (disch:=omega) only[go_sem,if_yes,if_no,if_no]))) (HOld.tick (by omega)) ?_
 rintro i n0 ⟨hi,hall⟩ hn0
 try dsimp only at hn0
 simp only[go_sem]
 by_cases hil:i < m.length
 ·repeat' (first|refine st_seq_reg rfl (by first|(simp only[go_sem,Lm];rfl)|rfl) (by first|(simp only[go_sem,Lm];rfl)|rfl) ?_|refine st_reg rfl (by first|(simp only[go_sem,Lm];rfl)|rfl) (by first|(simp only[go_sem,Lm];rfl)|rfl) ?_|refine st_op ?_|refine st_det rfl (by simp (disch:=omega) only[go_sem,wr_i64,Lm];rfl) ?_|(refine st_condS rfl ?_ ?_ <;> intro hg <;> (try simp only[dcT,dcF,bnT,bnF] at hg))|refine st_nil ?_|refine st_tN ?_|refine st_seq ?_|refine st_block ?_|refine st_skip ?_|refine st_exit ?_|refine st_ret ?_|refine st_tE ?_|refine st_tR ?_|refine st_bN ?_|refine st_bR ?_|refine st_bH ?_)
  all_goals try (exfalso;omega)
  ·simp (disch:=omega) only[AEnd,Tryz.results30,aresK,fin,go_sem,implies_true,true_and,and_true,List.reverse_cons,List.reverse_nil]
   have e:=jobsV_err (m:=m) (w:=w) (c:=c) (p:=p) (e:=2) (by unfold jobsErr;rw [if_neg hl6,if_pos (fun q=>by have:=q i hil;omega)]) (by decide)
   exact .inl ⟨_,VLe.refl _,e.symm⟩
  ·refine ⟨i+1,⟨by omega,stepP hall (by omega)⟩,by omega,(by repeat' (first|exact trivial|refine And.intro ?_ ?_|rfl|(simp (disch:=omega) only[go_sem,if_yes,if_no,if_no];rfl)|(simp (disch:=omega) only[go_sem,if_yes,if_no,if_no]))),(by repeat' (first|exact trivial|refine And.intro ?_ ?_|rfl|(simp (disch:=omega) only[go_sem,if_yes,if_no,if_no];rfl)|(simp (disch:=omega) only[go_sem,if_yes,if_no,if_no]))),rfl,HOld.tick (by omega)⟩
 have ei:i=m.length:=by omega
 subst ei
 repeat' (first|refine st_seq_reg rfl (by first|(simp only[go_sem,Lm];rfl)|rfl) (by first|(simp only[go_sem,Lm];rfl)|rfl) ?_|refine st_reg rfl (by first|(simp only[go_sem,Lm];rfl)|rfl) (by first|(simp only[go_sem,Lm];rfl)|rfl) ?_|refine st_op ?_|refine st_det rfl (by simp (disch:=omega) only[go_sem,wr_i64,Lm];rfl) ?_|refine st_heap rfl (by simp (disch:=omega) only[go_sem,wr_i64,Lm];rfl) ?_|(refine st_pureE (by first|(simp (disch:=omega) only[go_sem,Lm];rfl)|rfl) rfl (c66 0 30 [w,c,p] (by simp)) (by first|(simp only[go_sem,Lm];rfl)|rfl) (by intro n;first|(simp (disch:=omega) only[go_sem];rfl)|rfl) ?_;intro n hn)|(refine st_condS rfl ?_ ?_ <;> intro hg <;> (try simp only[dcT,dcF,bnT,bnF] at hg))|refine st_nil ?_|refine st_tN ?_|refine st_seq ?_|refine st_block ?_|refine st_skip ?_|refine st_exit ?_|refine st_ret ?_|refine st_tE ?_|refine st_tR ?_|refine st_bN ?_|refine st_bR ?_|refine st_bH ?_)
 all_goals try (exfalso;omega)
 ·simp (disch:=omega) only[AEnd,Tryz.results30,aresK,fin,go_sem,implies_true,true_and,and_true,List.reverse_cons,List.reverse_nil]
  have e:=jobsV_err (m:=m) (w:=w) (c:=c) (p:=p) (e:=2) (by
   unfold jobsErr
   rw [if_neg hl6,if_neg (fun q=>q hall),if_pos (fun q=>by simp [allIn] at hg;omega)]) (by decide)
  exact .inl ⟨_,VLe.refl _,e.symm⟩
 have hok:0≤w∧w≤30∧0≤c∧c≤30∧0≤p∧p≤30:=by simp [allIn] at hg;omega
 have hcn:h.clk≤n:=by omega
 refine st_loopH (α:=Nat × AH × AV) tab mixed [] [] (by repeat (first|exact trivial|refine ⟨rfl,?_⟩)) [] [] (by repeat (first|exact trivial|refine ⟨rfl,?_⟩)) (fun a=>[(37,.int .i64 (a.1:Nat))]) [(0,_),(1,_),(2,_),(3,_),(8,_),(9,_),(12,_),(35,_),(36,_)] (fun _=>[]) [] (fun a=>a.2.1) (fun a=>a.1≤m.length∧a.2.1.at_ (n,12)=some ⟨1,[[a.2.2]]⟩∧SlA (n+1) a.2.1 a.2.2 3 ((outJ m w c p a.1).map Jb.row)∧Fq (n+1) (n,12) (h.tick (n+1)) a.2.1) (fun a=>m.length - a.1) (by decide) (0,(h.tick (n+1+1)).put (n,12) (some ⟨1,[[.nils]]⟩),.nils) ⟨Nat.zero_le _,put_same _ _ _,.inl ⟨rfl,rfl⟩,⟨fun b _ q=>put_ne _ _ q,rfl,Nat.le_succ _⟩⟩ (by (try simp only[go_sem]);repeat' (first|exact trivial|refine And.intro ?_ ?_|rfl|(simp (disch:=omega) only[go_sem,if_yes,if_no,if_no];rfl)|(simp (disch:=omega) only[go_sem,if_yes,if_no,if_no]))) (by (try simp only[go_sem]);repeat' (first|exact trivial|refine And.intro ?_ ?_|rfl|(simp (disch:=omega) only[go_sem,if_yes,if_no,if_no];rfl)|(simp (disch:=omega) only[go_sem,if_yes,if_no,if_no]))) (HOld.refl _) ?_
 rintro ⟨i,g,v⟩ d ⟨hi2,hat,hS,hfr⟩ hd
 dsimp only at hi2 hat hS hfr hd
 simp only[go_sem]
 have hgc:n+1≤g.clk:=hfr.clk
 have hol:=outJ_len m w c p i
 by_cases hil2:i < m.length
 ·repeat' (first|refine st_seq_reg rfl (by first|(simp only[go_sem,Lm];rfl)|rfl) (by first|(simp only[go_sem,Lm];rfl)|rfl) ?_|refine st_op ?_|refine st_det rfl (by simp (disch:=omega) only[go_sem,wr_i64,Lm];rfl) ?_|refine st_heap rfl (by simp (disch:=omega) only[go_sem,wr_i64,Lm];rfl) ?_|refine st_store (by simp (disch:=omega) only[go_sem,wr_i64,Lm];rfl) ?_|(refine st_condS rfl ?_ ?_ <;> intro hg <;> (try simp only[dcT,dcF,bnT,bnF] at hg))|refine st_nil ?_|refine st_tN ?_|refine st_seq ?_|refine st_block ?_|refine st_skip ?_|refine st_exit ?_|refine st_tE ?_|refine st_bH ?_)
  all_goals try (exfalso;omega)
  first|refine st_free ?_|refine st_seq_free ?_
  refine ASem.frzT 13 (b:=(d+1,13)) (z:=1) (row:=[.int .i64 (i:Nat)]) (by simp only[go_sem,↓reduceIte]) (by simp only[go_sem,↓reduceIte,Nat.reduceEqDiff]) ?_
  refine st_run tab mixed (f2:=⟨62,[],[32],none,[]⟩) rfl rfl (by decide) ?_
  have key1:∀ N,((g.tick N).put (d+1,13) none).at_ (n,12)=some ⟨1,[[v]]⟩:=fun N=>by rw [put_ne _ _ (fun e=>by injection e with e1 _;omega)];exact hat
  have key2:∀ N,g.clk≤N→SlA (n+1) ((g.tick N).put (d+1,13) none) v 3 ((outJ m w c p i).map Jb.row):=fun N hN=>hS.to (fun b1 m _ _ q2=>put_ne _ _ (fun e=>by rw [e] at q2;exact absurd q2 (by show ¬ d+1 < g.clk;omega))) hN
  have key3:∀ N,g.clk≤N→Fq (n+1) (n,12) (h.tick (n+1)) ((g.tick N).put (d+1,13) none):=fun N hN=>hfr.trans ⟨fun b q1 _=>put_ne _ _ (fun e=>by rw [e] at q1;exact absurd q1 (by show ¬ d+1 < n+1;omega)),rfl,hN⟩
  by_cases hneg:m.getD i 0 < 0
  ·have hj:outJ m w c p (i+1)=((outJ m w c p i ++ addJ i 1 w) ++ addJ i 2 c) ++ addJ i 3 p:=by simp only[outJ,jobsAt,if_pos hneg,List.append_assoc]
   have a1:=addJ_len i 1 w
   have a2:=addJ_len i 2 c
   repeat' (first|refine st_seq_reg rfl (by first|(simp only[go_sem];rfl)|rfl) (by first|(simp only[go_sem];rfl)|rfl) ?_|refine st_reg rfl (by first|(simp only[go_sem];rfl)|rfl) (by first|(simp only[go_sem];rfl)|rfl) ?_|refine st_op ?_|refine st_det rfl (by simp (disch:=omega) only[go_sem,wr_i64];rfl) ?_|(refine st_call (args:=[.int .i64 1,.int .i64 w]) rfl rfl rfl (c68 i 1 w (n,12) (n+1) (Nat.lt_succ_self n) (outJ m w c p i) (by omega) v _ (key1 _) (key2 _ (by omega)) (by simp only[go_sem];omega)) ?_;rintro x1 h1 ⟨v1,hat1,hS1,hf1⟩)|refine st_condT rfl ?_|refine st_condF rfl ?_|(refine st_condS rfl ?_ ?_ <;> intro hg <;> (try simp only[dcT,dcF,bnT,bnF] at hg))|refine st_nil ?_|refine st_tN ?_|refine st_seq ?_|refine st_block ?_|refine st_skip ?_|refine st_exit ?_|refine st_tE ?_|refine st_bN ?_|refine st_bH ?_|refine st_bM rfl ?_)
   all_goals try (exfalso;omega)
   have hk1:=hf1.clk
   simp only[go_sem] at hk1
   repeat' (first|refine st_reg rfl (by first|(simp only[go_sem];rfl)|rfl) (by first|(simp only[go_sem];rfl)|rfl) ?_|refine st_op ?_|refine st_det rfl (by simp (disch:=omega) only[go_sem,wr_i64];rfl) ?_|(refine st_call (args:=[.int .i64 2,.int .i64 c]) rfl rfl rfl (c68 i 2 c (n,12) (n+1) (Nat.lt_succ_self n) (outJ m w c p i ++ addJ i 1 w) (by simp only[List.length_append];omega) v1 _ hat1 (hS1.to (fun _ _ _ _ _=>rfl) (by simp only[go_sem];omega)) (by simp only[go_sem];omega)) ?_;rintro x2 h2 ⟨v2,hat2,hS2,hf2⟩)|refine st_nil ?_)
   have hk2:=hf2.clk
   simp only[go_sem] at hk2
   repeat' (first|refine st_reg rfl (by first|(simp only[go_sem];rfl)|rfl) (by first|(simp only[go_sem];rfl)|rfl) ?_|refine st_op ?_|refine st_det rfl (by simp (disch:=omega) only[go_sem,wr_i64];rfl) ?_|(refine st_call (args:=[.int .i64 3,.int .i64 p]) rfl rfl rfl (c68 i 3 p (n,12) (n+1) (Nat.lt_succ_self n) (outJ m w c p i ++ addJ i 1 w ++ addJ i 2 c) (by simp only[List.length_append];omega) v2 _ hat2 (hS2.to (fun _ _ _ _ _=>rfl) (by simp only[go_sem];omega)) (by simp only[go_sem];omega)) ?_;rintro x3 h3 ⟨v3,hat3,hS3,hf3⟩)|refine st_nil ?_|refine st_tN ?_|refine st_exit ?_|refine st_bN ?_|refine st_bH ?_)
   have hk3:=hf3.clk
   simp only[go_sem] at hk3
   refine ⟨(i+1,h3,v3),⟨by show i+1≤m.length;omega,hat3,by show SlA (n+1) h3 v3 3 ((outJ m w c p (i+1)).map Jb.row);rw [hj];exact hS3,(((key3 _ (by omega)).trans hf1).trans (((Fq.refl h1).tick (Nat.le_succ _)).trans hf2)).trans (((Fq.refl h2).tick (Nat.le_succ _)).trans hf3)⟩,by show m.length - (i+1) < m.length - i;omega,(by repeat' (first|exact trivial|refine And.intro ?_ ?_|rfl|(simp (disch:=omega) only[go_sem,if_yes,if_no,if_no];rfl)|(simp (disch:=omega) only[go_sem,if_yes,if_no,if_no]))),(by repeat' (first|exact trivial|refine And.intro ?_ ?_|rfl|(simp (disch:=omega) only[go_sem,if_yes,if_no,if_no];rfl)|(simp (disch:=omega) only[go_sem,if_yes,if_no,if_no]))),rfl,HOld.tick (by simp only[go_sem];omega)⟩
  ·have hj:outJ m w c p (i+1)=(outJ m w c p i ++ addJ i 2 c) ++ addJ i 3 p:=by simp only[outJ,jobsAt,if_neg hneg,List.nil_append,List.append_assoc]
   have a2:=addJ_len i 2 c
   repeat' (first|refine st_seq_reg rfl (by first|(simp only[go_sem];rfl)|rfl) (by first|(simp only[go_sem];rfl)|rfl) ?_|refine st_reg rfl (by first|(simp only[go_sem];rfl)|rfl) (by first|(simp only[go_sem];rfl)|rfl) ?_|refine st_op ?_|refine st_det rfl (by simp (disch:=omega) only[go_sem,wr_i64];rfl) ?_|(refine st_call (args:=[.int .i64 2,.int .i64 c]) rfl rfl rfl (c68 i 2 c (n,12) (n+1) (Nat.lt_succ_self n) (outJ m w c p i) (by omega) v _ (key1 _) (key2 _ (by omega)) (by simp only[go_sem];omega)) ?_;rintro x2 h2 ⟨v2,hat2,hS2,hf2⟩)|refine st_condT rfl ?_|refine st_condF rfl ?_|(refine st_condS rfl ?_ ?_ <;> intro hg <;> (try simp only[dcT,dcF,bnT,bnF] at hg))|refine st_nil ?_|refine st_tN ?_|refine st_seq ?_|refine st_block ?_|refine st_skip ?_|refine st_exit ?_|refine st_tE ?_|refine st_bH ?_|refine st_bM rfl ?_)
   all_goals try (exfalso;omega)
   have hk2:=hf2.clk
   simp only[go_sem] at hk2
   repeat' (first|refine st_reg rfl (by first|(simp only[go_sem];rfl)|rfl) (by first|(simp only[go_sem];rfl)|rfl) ?_|refine st_op ?_|refine st_det rfl (by simp (disch:=omega) only[go_sem,wr_i64];rfl) ?_|(refine st_call (args:=[.int .i64 3,.int .i64 p]) rfl rfl rfl (c68 i 3 p (n,12) (n+1) (Nat.lt_succ_self n) (outJ m w c p i ++ addJ i 2 c) (by simp only[List.length_append];omega) v2 _ hat2 (hS2.to (fun _ _ _ _ _=>rfl) (by simp only[go_sem];omega)) (by simp only[go_sem];omega)) ?_;rintro x3 h3 ⟨v3,hat3,hS3,hf3⟩)|refine st_nil ?_|refine st_tN ?_|refine st_exit ?_|refine st_bN ?_|refine st_bH ?_)
   have hk3:=hf3.clk
   simp only[go_sem] at hk3
   refine ⟨(i+1,h3,v3),⟨by show i+1≤m.length;omega,hat3,by show SlA (n+1) h3 v3 3 ((outJ m w c p (i+1)).map Jb.row);rw [hj];exact hS3,((key3 _ (by omega)).trans hf2).trans (((Fq.refl h2).tick (Nat.le_succ _)).trans hf3)⟩,by show m.length - (i+1) < m.length - i;omega,(by repeat' (first|exact trivial|refine And.intro ?_ ?_|rfl|(simp (disch:=omega) only[go_sem,if_yes,if_no,if_no];rfl)|(simp (disch:=omega) only[go_sem,if_yes,if_no,if_no]))),(by repeat' (first|exact trivial|refine And.intro ?_ ?_|rfl|(simp (disch:=omega) only[go_sem,if_yes,if_no,if_no];rfl)|(simp (disch:=omega) only[go_sem,if_yes,if_no,if_no]))),rfl,HOld.tick (by simp only[go_sem];omega)⟩
 ·have ei:i=m.length:=by omega
  subst ei
  have hnv:=hS.noL
  have hlen:alen (tt 52) v=some (((outJ m w c p m.length).length:Nat):Int):=by
   rcases hS with ⟨rfl,e⟩|⟨b1,rfl,_⟩
   ·rw [List.map_eq_nil_iff.1 e];rfl
   ·rw [Lm];rfl
  have hold2:∀ b':Bid,b'.1 < h.clk→g.at_ b'=h.at_ b':=fun b' q=>by
   rw [hfr.at_ b' (by omega) (fun e=>by rw [e] at q;exact absurd q (by show ¬ n < h.clk;omega))];rfl
  by_cases h13:7 < (outJ m w c p m.length).length
  ·have e:=jobsV_err (m:=m) (w:=w) (c:=c) (p:=p) (e:=13) (by unfold jobsErr;rw [if_neg hl6,if_neg (fun q=>q hall),if_neg (fun q=>q hok),if_pos h13]) (by decide)
   repeat' (first|refine st_seq_reg rfl (by first|(simp only[go_sem,Lm,hat,hlen,hnv];rfl)|rfl) (by first|(simp only[go_sem,Lm,hat,hlen,hnv];rfl)|rfl) ?_|refine st_op ?_|refine st_det rfl (by simp (disch:=omega) only[go_sem,wr_i64,Lm,hat,hlen,hnv];rfl) ?_|refine st_heap rfl (by simp (disch:=omega) only[go_sem,wr_i64,Lm,hat,hlen,hnv];rfl) ?_|refine st_store (by simp (disch:=omega) only[go_sem,wr_i64,Lm,hat,hlen,hnv];rfl) ?_|(refine st_condS rfl ?_ ?_ <;> intro hg <;> (try simp only[dcT,dcF,bnT,bnF] at hg))|refine st_nil ?_|refine st_tN ?_|refine st_seq ?_|refine st_block ?_|refine st_skip ?_|refine st_exit ?_|refine st_ret ?_|refine st_tE ?_|refine st_tR ?_|refine st_bH ?_)
   all_goals try (exfalso;omega)
   simp (disch:=omega) only[AEnd,Tryz.results30,aresK,fin,go_sem,implies_true,true_and,and_true,List.reverse_cons,List.reverse_nil]
   exact ⟨hold2,hfr.lp,.inl ⟨_,VLe.refl _,e.symm⟩⟩
  ·have e:jobsV m w c p=.tup [.lst 3 ((outJ m w c p m.length).map Jb.row),.int .i64 0]:=by
    have e0:jobsErr m w c p=0:=by unfold jobsErr;rw [if_neg hl6,if_neg (fun q=>q hall),if_neg (fun q=>q hok),if_neg h13]
    unfold jobsV;rw [if_neg (fun q=>q e0)]
   repeat' (first|refine st_seq_reg rfl (by first|(simp only[go_sem,Lm,hat,hlen,hnv];rfl)|rfl) (by first|(simp only[go_sem,Lm,hat,hlen,hnv];rfl)|rfl) ?_|refine st_op ?_|refine st_det rfl (by simp (disch:=omega) only[go_sem,wr_i64,Lm,hat,hlen,hnv];rfl) ?_|refine st_heap rfl (by simp (disch:=omega) only[go_sem,wr_i64,Lm,hat,hlen,hnv];rfl) ?_|refine st_store (by simp (disch:=omega) only[go_sem,wr_i64,Lm,hat,hlen,hnv];rfl) ?_|(refine st_condS rfl ?_ ?_ <;> intro hg <;> (try simp only[dcT,dcF,bnT,bnF] at hg))|refine st_nil ?_|refine st_tN ?_|refine st_seq ?_|refine st_block ?_|refine st_skip ?_|refine st_exit ?_|refine st_ret ?_|refine st_tE ?_|refine st_tR ?_|refine st_bH ?_)
   all_goals try (exfalso;omega)
   simp (disch:=omega) only[AEnd,Tryz.results30,aresK,fin,go_sem,implies_true,true_and,and_true,List.reverse_cons,List.reverse_nil]
   rw [e]
   refine ⟨hnv,hold2,hfr.lp,?_⟩
   rcases hS with ⟨rfl,e2⟩|⟨b,rfl,q1,q2,q3⟩
   ·rw [e2]
    exact .inl ⟨_,VLe.tup (by simp only[VLes];exact ⟨_,_,rfl,VLe.nils 3,_,_,rfl,VLe.refl _,rfl⟩),rfl⟩
   ·refine .inr ⟨b,_,by omega,q1,?_⟩
    simp only[frz,frzs,List.drop_zero,Nat.zero_add,and_self,if_true,Nat.le_refl,List.take_length]
end Go.Proofs.YtaijkalhkgjakaaGreatDoor

namespace Go.Proofs.YtaijkalhkgjakaaGreatDoor
open Go.Av
attribute [local irreducible] thenA blockA awp awpOps awpD awp1
attribute [local go_sem_proc] Nat.reduceAdd Nat.reduceMul Nat.reduceEqDiff Nat.reduceBEq Nat.reduceLeDiff
attribute [local go_sem_proc ↓] reduceIte
attribute [local go_sem] if_yes if_no
set_option maxHeartbeats 8000000
set_option maxRecDepth 20000
structure FS where
 i:Int
 x:Int
 t:Nat
 bb:Nat × Nat
 ls:List Ld
def FS.sl (a:FS):AV:=if a.ls=[] then .nils else .slc a.bb 7 0 a.ls.length
def FS.hp (h:AH) (b:Nat × Nat) (a:FS):AH:=if a.ls=[] then (h.tick a.t).put b (dr a.x) else ((h.tick a.t).put a.bb (some ⟨7,a.ls.map Ld.row⟩)).put b (dr a.x)
@[go_sem] theorem FS.sl_nil (i x:Int) (t:Nat) (bb:Nat × Nat):FS.sl ⟨i,x,t,bb,[]⟩=.nils:=rfl
@[go_sem] theorem FS.sl_app (i x:Int) (t:Nat) (bb:Nat × Nat) (l:List Ld) (y:Ld):FS.sl ⟨i,x,t,bb,l ++ [y]⟩=.slc bb 7 0 (l.length+1):=by simp [FS.sl]
@[go_sem] theorem FS.sl_one (i x:Int) (t:Nat) (bb:Nat × Nat) (y:Ld):FS.sl ⟨i,x,t,bb,[y]⟩=.slc bb 7 0 1:=by simp [FS.sl]
theorem hold2 {h:AH} {m m':Nat} {id bb b:Nat × Nat} {k k0 k1 d:Option Blk} (hn:m≤m') (hk:k=k1) (hne:¬ id=b) (hbb:h.at_ bb=none) (hb:¬ bb=b):HOld (((h.tick m).put id k).put b d) (((((h.tick m').put bb k0).put b d).put bb none).put id k1):=by
 subst hk
 refine ⟨fun z k' hz=>?_,fun _ _ e=>e,hn,rfl⟩
 simp only[AH.put,upd_apply,AH.tick] at hz ⊢
 by_cases e:z=id
 ·subst e;simpa [hne] using hz
 ·by_cases e2:z=bb
  ·subst e2
   simp [e,hb,hbb] at hz
  ·simpa [e,e2] using hz
end Go.Proofs.YtaijkalhkgjakaaGreatDoor

namespace Go.Proofs.YtaijkalhkgjakaaGreatDoor
open Go.Av
attribute [local irreducible] thenA blockA awp awpOps awpD awp1
attribute [local go_sem_proc] Nat.reduceAdd Nat.reduceMul Nat.reduceEqDiff Nat.reduceBEq Nat.reduceLeDiff
attribute [local go_sem_proc ↓] reduceIte
attribute [local go_sem] if_yes if_no
set_option maxHeartbeats 8000000
set_option maxRecDepth 20000
structure Gd (h:AH) (b:Nat × Nat) (x:Int) (g:AH):Prop where
 u:isU64 x
 d:g.at_ b=dr x
 old:∀ b':Nat × Nat,b'.1 < h.clk→b' ≠ b→g.at_ b'=h.at_ b'
 lp:g.lp=h.lp
 cl:h.clk≤g.clk
theorem Gd.to {h g g':AH} {b:Nat × Nat} {x x':Int} (hG:Gd h b x g) (u:isU64 x') (d:g'.at_ b=dr x') (ho:∀ b':Nat × Nat,b'.1 < h.clk→b' ≠ b→g'.at_ b'=g.at_ b') (hl:g'.lp=g.lp) (hc:g.clk≤g'.clk):Gd h b x' g' :=
 ⟨u,d,fun b' h1 h2=>by rw [ho b' h1 h2];exact hG.old b' h1 h2,by rw [hl];exact hG.lp,by have:=hG.cl;omega⟩
theorem Gd.put {h g:AH} {b:Nat × Nat} {x x':Int} (hG:Gd h b x g) (u:isU64 x') {n:Nat} (hn:g.clk≤n):Gd h b x' ((g.tick n).put b (dr x')) :=
 hG.to u (put_same _ _ _) (fun b' _ h2=>put_ne _ _ h2) rfl hn
theorem Gd.tick {h g:AH} {b:Nat × Nat} {x:Int} (hG:Gd h b x g) {n:Nat} (hn:g.clk≤n):Gd h b x (g.tick n):=hG.to hG.u hG.d (fun _ _ _=>rfl) rfl hn
theorem Gd.app {h H G:AH} {b:Nat × Nat} {x:Int} {h0 k0 d z n:Nat} {v v':AV} {l:List (List AV)} (hG:Gd h b x H) (hb:b.1 < h.clk) (h0h:h.clk≤h0) (hA:AppA h0 k0 d H v z n l v' G) {N:Nat} (hN:H.clk≤N):Gd h b x (G.tick N) :=
 hG.to hG.u (by show G.at_ b=_;rw [hA.old b (by omega)];exact hG.d) (fun b' h1 _=>hA.old b' (by omega)) hA.lp hN
end Go.Proofs.YtaijkalhkgjakaaGreatDoor

namespace Go.Proofs.YtaijkalhkgjakaaGreatDoor
open Go.Av
attribute [local irreducible] thenA blockA awp awpOps awpD awp1
attribute [local go_sem_proc] Nat.reduceAdd Nat.reduceMul Nat.reduceEqDiff Nat.reduceBEq Nat.reduceLeDiff
attribute [local go_sem_proc ↓] reduceIte
attribute [local go_sem] if_yes if_no
set_option maxHeartbeats 8000000
set_option maxRecDepth 20000
end Go.Proofs.YtaijkalhkgjakaaGreatDoor

namespace Go.Proofs.YtaijkalhkgjakaaGreatDoor
open Go.Av
def chkJ (S:Sp) (p:List Sf) (i:Nat):Int :=
 if ¬ (0≤(pAt p i).w∧(pAt p i).w < S.ws.length) then 7 else
 if (S.wk (pAt p i).w.toNat).can (S.j i).s=false then 3 else
 if ¬ (0≤(pAt p i).d∧(pAt p i).d≤400) then 2 else
 if 0≤befJ S.js (S.j i).f i∧(pAt p i).d < (pAt p (befJ S.js (S.j i).f i).toNat).d+(S.j (befJ S.js (S.j i).f i).toNat).d then 9 else 0
def clP (S:Sp) (p:List Sf) (i k:Nat):Bool :=
 decide ((pAt p i).w=(pAt p k).w) && decide ((pAt p i).d < (pAt p k).d+(S.j k).d) && decide ((pAt p k).d < (pAt p i).d+(S.j i).d)
def chkP (S:Sp) (p:List Sf):Int :=
 if p.length ≠ S.js.length then 1 else
 match (List.range p.length).find? fun i=>decide (chkJ S p i ≠ 0) with
 | some i=>chkJ S p i
 | none=>if (List.range p.length).any fun i=>(List.range i).any fun k=>clP S p i k then 10 else 0
structure Less (S S':Sp) (φ:Nat→Nat):Prop where
 lt:∀ i,i < S'.js.length→φ i < S.js.length
 mono:∀ i k,i < k→k < S'.js.length→φ i < φ k
 f:∀ i,i < S'.js.length→(S'.j i).f=(S.j (φ i)).f
 s:∀ i,i < S'.js.length→(S'.j i).s=(S.j (φ i)).s
 d:∀ i,i < S'.js.length→(S'.j i).d≤(S.j (φ i)).d
 w:∀ w,w < S.ws.length→w < S'.ws.length∧∀ s,(S.wk w).can s=true→(S'.wk w).can s=true
def subP (p:List Sf) (φ:Nat→Nat) (n:Nat):List Sf:=(List.range n).map fun i=>pAt p (φ i)
theorem pAt_subP {p:List Sf} {φ:Nat→Nat} {n i:Nat} (h:i < n):pAt (subP p φ n) i=pAt p (φ i):=by
 have:pAt (subP p φ n) i=((subP p φ n)[i]?).getD ⟨0,0⟩:=by simp [pAt,List.getD_eq_getElem?_getD]
 rw [this];simp [subP,h]
theorem Less.vp {S S':Sp} {φ:Nat→Nat} (L:Less S S' φ) {p:List Sf} (h:VP S p):VP S' (subP p φ S'.js.length):=by
 refine ⟨by simp [subP],fun i hi=>?_,fun k i hki hi hf=>?_,fun k i hki hi hw=>?_⟩
 ·rw [pAt_subP hi]
  obtain ⟨a,b,c,d,e⟩:=h.w _ (L.lt i hi)
  obtain ⟨w1,w2⟩:=L.w (pAt p (φ i)).w.toNat (by omega)
  exact ⟨a,by omega,by rw [L.s i hi];exact w2 _ c,d,e⟩
 ·have hk:=Nat.lt_trans hki hi
  rw [pAt_subP hi,pAt_subP hk]
  have:=h.ord _ _ (L.mono k i hki hi) (L.lt i hi) (by rw [← L.f k hk,← L.f i hi];exact hf)
  have:=L.d k hk
  omega
 ·have hk:=Nat.lt_trans hki hi
  rw [pAt_subP hi,pAt_subP hk] at *
  have:=h.clash _ _ (L.mono k i hki hi) (L.lt i hi) hw
  have:=L.d k hk
  have:=L.d i hi
  omega
theorem Less.takes {S S':Sp} {φ:Nat→Nat} (L:Less S S' φ) (p:List Sf):takesP S' (subP p φ S'.js.length)≤takesP S p:=by
 rcases takesTo_cases (js:=S'.js) (p:=subP p φ S'.js.length) S'.js.length with e|⟨i,hi,e⟩
 ·unfold takesP;rw [e];exact takesTo_nonneg _
 ·unfold takesP;rw [e,pAt_subP hi]
  have h1:=L.d i hi
  have h2:=takesTo_ge (js:=S.js) (p:=p) (L.lt i hi)
  have e1:S'.j i=jOf S'.js i:=rfl
  have e2:S.j (φ i)=jOf S.js (φ i):=rfl
  rw [e1,e2] at h1
  omega
theorem Less.best {S S':Sp} {φ:Nat→Nat} (L:Less S S' φ) {p p':List Sf} {t t':Int} (h:BestOk S p t) (h':BestOk S' p' t'):t'≤t:=by
 have h1:=h'.best _ (L.vp h.vp)
 have h2:=L.takes p
 have h3:=h.takes
 omega
theorem chkJ_zero {S:Sp} {p:List Sf} {i:Nat}:chkJ S p i=0 ↔ (0≤(pAt p i).w∧(pAt p i).w < S.ws.length)∧(S.wk (pAt p i).w.toNat).can (S.j i).s=true∧(0≤(pAt p i).d∧(pAt p i).d≤400) ∧
  ¬ (0≤befJ S.js (S.j i).f i∧(pAt p i).d < (pAt p (befJ S.js (S.j i).f i).toNat).d+(S.j (befJ S.js (S.j i).f i).toNat).d):=by
 unfold chkJ
 constructor
 ·intro h
  split at h
  ·exact absurd h (by decide)
  ·rename_i h1
   split at h
   ·exact absurd h (by decide)
   ·rename_i h2
    split at h
    ·exact absurd h (by decide)
    ·rename_i h3
     split at h
     ·exact absurd h (by decide)
     ·rename_i h4
      exact ⟨Decidable.of_not_not h1,by simpa using h2,Decidable.of_not_not h3,h4⟩
 ·rintro ⟨h1,h2,h3,h4⟩
  rw [if_neg (fun q=>q h1),if_neg (by rw [h2];decide),if_neg (fun q=>q h3),if_neg h4]
theorem chk_ord {S:Sp} (hS:S.Ok) {p:List Sf} {n:Nat} (hn:n≤S.js.length) (h:∀ k,k < n→chkJ S p k=0):∀ i,i < n→∀ k,k < i→(S.j k).f=(S.j i).f→(pAt p k).d+(S.j k).d≤(pAt p i).d:=by
 intro i
 induction i using Nat.strongRecOn with
 | _ i ih =>
  intro hi k hk hf
  have hz:=(chkJ_zero.1 (h i hi)).2.2.2
  rcases befJ_cases S.js (S.j i).f i with ⟨_,hno⟩|⟨b,e,hb,hfb,hl⟩
  ·exact absurd hf (hno k hk)
  ·rw [e,Int.toNat_natCast] at hz
   have hz:¬ (pAt p i).d < (pAt p b).d+(S.j b).d:=fun q=>hz ⟨by omega,q⟩
   by_cases hkb:k=b
   ·subst hkb;omega
   ·have hkb:k < b:=by
     rcases Nat.lt_or_gt_of_ne hkb with q|q
     ·exact q
     ·exact absurd hf (hl k q hk)
    have:=ih b hb (by omega) k hkb (by rw [hf];exact hfb.symm)
    have hd:=hS.d b (show b < S.js.length by omega)
    have e2:S.sch.d b=(S.j b).d:=rfl
    omega
theorem ord_iff {S:Sp} (hS:S.Ok) {p:List Sf} {i:Nat} (hi:i≤S.js.length) (h:∀ k,k < i→chkJ S p k=0) (f d:Int) :
  (∃ k,k < i∧(S.j k).f=f∧d < (pAt p k).d+(S.j k).d) ↔ (0≤befJ S.js f i∧d < (pAt p (befJ S.js f i).toNat).d+(S.j (befJ S.js f i).toNat).d):=by
 rcases befJ_cases S.js f i with ⟨e,hno⟩|⟨b,e,hb,hfb,hl⟩
 ·constructor
  ·rintro ⟨k,hk,hf,_⟩;exact absurd hf (hno k hk)
  ·rintro ⟨h1,_⟩;omega
 ·rw [e,Int.toNat_natCast]
  constructor
  ·rintro ⟨k,hk,hf,hlt⟩
   refine ⟨by omega,?_⟩
   by_cases hkb:k=b
   ·subst hkb;exact hlt
   ·have hkb:k < b:=by
     rcases Nat.lt_or_gt_of_ne hkb with q|q
     ·exact q
     ·exact absurd hf (hl k q hk)
    have:=chk_ord hS hi h b hb k hkb (by rw [show (S.j b).f=f from hfb];exact hf)
    have hd:=hS.d b (show b < S.js.length by omega)
    have e2:S.sch.d b=(S.j b).d:=rfl
    omega
  ·rintro ⟨_,hlt⟩;exact ⟨b,hb,hfb,hlt⟩
theorem chkP_vp {S:Sp} (hS:S.Ok) {p:List Sf}:chkP S p=0 ↔ VP S p:=by
 unfold chkP
 constructor
 ·intro h
  split at h
  ·exact absurd h (by decide)
  ·rename_i hl
   have hl:p.length=S.js.length:=Decidable.of_not_not hl
   split at h
   ·rename_i i hf
    have:=List.find?_some hf
    rw [decide_eq_true_eq] at this
    exact absurd h this
   ·rename_i hf
    have hz:∀ k,k < S.js.length→chkJ S p k=0:=fun k hk=>by
     have:=List.find?_eq_none.1 hf k (List.mem_range.2 (by omega))
     simpa using this
    split at h
    ·exact absurd h (by decide)
    ·rename_i hcl
     refine ⟨hl,fun i hi=>?_,fun k i hki hi hfk=>chk_ord hS (Nat.le_refl _) hz i hi k hki hfk,fun k i hki hi hw=>?_⟩
     ·obtain ⟨a,b,c,_⟩:=chkJ_zero.1 (hz i hi)
      exact ⟨a.1,a.2,b,c.1,c.2⟩
     ·apply Classical.byContradiction
      intro hno
      apply hcl
      rw [List.any_eq_true]
      refine ⟨i,List.mem_range.2 (by omega),?_⟩
      rw [List.any_eq_true]
      refine ⟨k,List.mem_range.2 hki,?_⟩
      unfold clP
      simp only[Bool.and_eq_true,decide_eq_true_eq]
      omega
 ·intro h
  have hl:=h.len
  rw [if_neg (fun q=>q hl)]
  have hz:∀ n,n≤S.js.length→∀ k,k < n→chkJ S p k=0:=by
   intro n
   induction n with
   | zero=>intro _ k hk;omega
   | succ n ih =>
    intro hn k hk
    have ih:=ih (by omega)
    by_cases e:k=n
    ·subst e
     obtain ⟨a,b,c,d,e⟩:=h.w k (by omega)
     refine chkJ_zero.2 ⟨⟨a,b⟩,c,⟨d,e⟩,fun q=>?_⟩
     obtain ⟨j,hj,hf,hlt⟩:=(ord_iff hS (by omega) ih _ _).2 q
     have:=h.ord j k hj (by omega) hf
     omega
    ·exact ih k (by omega)
  have hz:=hz _ (Nat.le_refl _)
  have hnone:(List.range p.length).find? (fun i=>decide (chkJ S p i ≠ 0))=none:=by
   rw [List.find?_eq_none]
   intro k hk
   have:=hz k (by have:=List.mem_range.1 hk;omega)
   simp [this]
  rw [hnone]
  dsimp only
  rw [if_neg]
  rw [List.any_eq_true]
  rintro ⟨i,hi,hh⟩
  rw [List.any_eq_true] at hh
  obtain ⟨k,hk,hc⟩:=hh
  have hi:=List.mem_range.1 hi
  have hk:=List.mem_range.1 hk
  unfold clP at hc
  simp only[Bool.and_eq_true,decide_eq_true_eq] at hc
  have:=h.clash k i hk (by omega) hc.1.1.symm
  omega
end Go.Proofs.YtaijkalhkgjakaaGreatDoor
