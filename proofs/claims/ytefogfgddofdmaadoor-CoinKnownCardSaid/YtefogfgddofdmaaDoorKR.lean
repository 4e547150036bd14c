/- Contracts of functions that the claim reaches: what each call gives, told in our own logic. Conditions: those of each theorem. -/
import Derived.Test.YtefogfgddofdmaaDoorG5
import Derived.Test.YtefogfgddofdmaaDoorG2
open List (length_map)
set_option linter.all false
set_option linter.unusedSimpArgs false
set_option linter.unusedVariables false
namespace Go.Proofs.YtefogfgddofdmaaDoor
open Go.Av
attribute [local irreducible] thenA blockA awp awpOps awpD awp1
attribute [local go_sem_proc] Nat.reduceAdd Nat.reduceMul Nat.reduceEqDiff Nat.reduceBEq Nat.reduceLeDiff
attribute [local go_sem_proc ↓] reduceIte
attribute [local go_sem] if_yes if_no
set_option maxHeartbeats 8000000
set_option maxRecDepth 20000
def firstE (f:Nat→Int):Nat→Nat→Int
 | _,0=>0
 | i,k+1=>if f i ≠ 0 then f i else firstE f (i+1) k
theorem firstE_at {f:Nat→Int} {i n:Nat} (h:i < n):firstE f i (n - i)=if f i ≠ 0 then f i else firstE f (i+1) (n - (i+1)):=by
 obtain ⟨k,hk⟩:∃ k,n - i=k+1:=⟨n - i - 1,by omega⟩
 rw [hk,show n - (i+1)=k by omega];rfl
theorem firstE_hit {f:Nat→Int} {i n:Nat} {e:Int} (h:i < n) (he:f i=e) (hn:e ≠ 0):firstE f i (n - i)=e:=by
 rw [firstE_at h,he,if_pos hn]
theorem firstE_miss {f:Nat→Int} {i n:Nat} (h:i < n) (he:f i=0):firstE f (i+1) (n - (i+1))=firstE f i (n - i):=by
 rw [firstE_at h,he,if_neg (by simp)]
theorem firstE_end {f:Nat→Int} {i:Nat}:firstE f i (i - i)=0:=by rw [Nat.sub_self];rfl
theorem firstE_zero {f:Nat→Int}:∀ {k i:Nat},firstE f i k=0→∀ j,i≤j→j < i+k→f j=0
 | 0,i,_,j,h1,h2=>by omega
 | k+1,i,h,j,h1,h2=>by
  have h':(if f i ≠ 0 then f i else firstE f (i+1) k)=0:=h
  split at h'
  ·rename_i hn;exact absurd h' hn
  ·rename_i hn
   by_cases e:j=i
   ·rw [e];exact Decidable.not_not.1 hn
   ·exact firstE_zero h' j (by omega) (by omega)
def useE (l:List Int) (i:Nat):Int:=if ¬ (0≤l.getD i 0∧l.getD i 0≤7) then 2 else if 0 < i∧l.getD i 0≤l.getD (i - 1) 0 then 9 else 0
def fundE (x:Fd):Int :=
 if ¬ (0≤x.day∧x.day≤3650∧0≤x.till∧x.till≤3650) then 2 else
 if x.till < x.day then 9 else
 if ¬ (0≤x.amt∧x.amt≤1000000000) then 2 else
 if 8 < x.uses.length then 5 else firstE (useE x.uses) 0 x.uses.length
def billE (x:Bl):Int:=if 0≤x.day∧x.day≤3650∧0≤x.use∧x.use≤7∧0≤x.amt∧x.amt≤1000000000 then 0 else 2
def fundsE (l:Lg):Int:=firstE (fun i=>fundE (fd l.fs i)) 0 l.fs.length
def chkE (l:Lg):Int :=
 if 8 < l.fs.length then 5 else
 if fundsE l ≠ 0 then fundsE l else
 if 8 < l.bs.length then 5 else firstE (fun i=>billE (bl l.bs i)) 0 l.bs.length
theorem fundOk {x:Fd} (h:fundE x=0):FdOk x:=by
 unfold fundE at h
 (repeat' split at h) <;> first|omega|skip
 refine ⟨by omega,by omega,by omega,by omega,fun u hu=>?_⟩
 obtain ⟨i,hi,rfl⟩:=List.mem_iff_getElem.1 hu
 have:=firstE_zero h i (by omega) (by omega)
 unfold useE at this
 rw [List.getD_eq_getElem?_getD,List.getElem?_eq_getElem hi] at this
 simp only[Option.getD_some] at this
 split at this
 ·omega
 ·omega
theorem ledgerOk {l:Lg} (h:chkE l=0):LgOk l:=by
 unfold chkE at h
 split at h
 ·omega
 split at h
 ·omega
 split at h
 ·omega
 rename_i h1 h2 h3
 have h2':fundsE l=0:=by omega
 refine ⟨by omega,by omega,fun x hx=>?_,fun x hx=>?_⟩
 ·obtain ⟨i,hi,rfl⟩:=List.mem_iff_getElem.1 hx
  have:=firstE_zero h2' i (by omega) (by omega)
  have e:fd l.fs i=l.fs[i]:=by simp [fd,List.getD_eq_getElem?_getD,hi]
  rw [e] at this
  exact fundOk this
 ·obtain ⟨i,hi,rfl⟩:=List.mem_iff_getElem.1 hx
  have:=firstE_zero h i (by omega) (by omega)
  have e:bl l.bs i=l.bs[i]:=by simp [bl,List.getD_eq_getElem?_getD,hi]
  rw [e] at this
  unfold billE at this
  split at this
  ·exact ⟨by omega,by omega,by omega⟩
  ·omega
theorem c20 (x:Fd):Pure Tryd.prog 20 [.agg x.row] (fun v=>v=.int .i64 (fundE x)):=by
 intro h
 refine ACalls.forget (ACalls.of tab mixed Tryd.call20 Tryd.func20 rfl (fi:=⟨57,[],[1,10,22,40],none,[]⟩) rfl rfl (Nat.le_of_ble_eq_true rfl) (by decide) ?_)
 unfold startA
 simp only[go_sem]
 repeat' (first|refine st_seq_reg rfl (by first|(simp only[go_sem];rfl)|rfl) (by first|(simp only[go_sem];rfl)|rfl) ?_|refine st_reg rfl (by first|(simp only[go_sem];rfl)|rfl) (by first|(simp only[go_sem];rfl)|rfl) ?_|refine st_op ?_|refine st_det rfl (by simp (disch:=omega) only[go_sem,wr_i64];rfl) ?_|refine st_loc rfl (by simp (disch:=omega) only[go_sem,wr_i64];rfl) ?_|refine st_heap rfl (by simp (disch:=omega) only[go_sem,wr_i64];rfl) ?_|(refine st_pureE (by first|(simp (disch:=omega) only[go_sem];rfl)|rfl) rfl (c21b _ _ _ _) (by first|(simp only[go_sem];rfl)|rfl) (by intro n;first|(simp (disch:=omega) only[go_sem];rfl)|rfl) ?_;intro n hn)|(refine st_pureE (by first|(simp (disch:=omega) only[go_sem];rfl)|rfl) rfl (c21a _ _ _) (by first|(simp only[go_sem];rfl)|rfl) (by intro n;first|(simp (disch:=omega) only[go_sem];rfl)|rfl) ?_;intro n hn)|refine st_gT rfl rfl rfl ?_|refine st_gF rfl rfl rfl ?_|(refine st_gS rfl rfl ?_ ?_ <;> intro hg <;> (try simp only[dcT,dcF,bnT,bnF] at hg))|refine st_condT rfl ?_|refine st_condF rfl ?_|(refine st_condS rfl ?_ ?_ <;> intro hg <;> (try simp only[dcT,dcF,bnT,bnF] at hg))|refine st_nil ?_|refine st_tN ?_|refine st_seq ?_|refine st_block ?_|refine st_skip ?_|refine st_exit ?_|refine st_ret ?_|refine st_tE ?_|refine st_tR ?_|refine st_bN ?_|refine st_bR ?_|refine st_bH ?_|refine st_bM rfl ?_)
 ·simp (disch:=omega) only[AEnd,Tryd.results20,aresK,fin,go_sem,implies_true,true_and,and_true,List.reverse_cons,List.reverse_nil]
  unfold fundE;rw [if_pos (by omega)]
 ·simp (disch:=omega) only[AEnd,Tryd.results20,aresK,fin,go_sem,implies_true,true_and,and_true,List.reverse_cons,List.reverse_nil]
  unfold fundE;rw [if_neg (by omega),if_pos (by omega)]
 ·simp (disch:=omega) only[AEnd,Tryd.results20,aresK,fin,go_sem,implies_true,true_and,and_true,List.reverse_cons,List.reverse_nil]
  unfold fundE;rw [if_neg (by omega),if_neg (by omega),if_pos (by omega)]
 ·simp (disch:=omega) only[AEnd,Tryd.results20,aresK,fin,go_sem,implies_true,true_and,and_true,List.reverse_cons,List.reverse_nil]
  unfold fundE;rw [if_neg (by omega),if_neg (by omega),if_neg (by omega),if_pos (by omega)]
 have e0:fundE x=firstE (useE x.uses) 0 x.uses.length:=by unfold fundE;rw [if_neg (by omega),if_neg (by omega),if_neg (by omega),if_neg (by omega)]
 rw [e0]
 refine st_loopC (α:=Nat) tab mixed [] [] (by repeat (first|exact trivial|refine ⟨rfl,?_⟩)) [] [] (by repeat (first|exact trivial|refine ⟨rfl,?_⟩)) (fun i=>[(33,.int .i64 i)]) [(1,_),(31,_),(32,_)] (fun _=>[]) [] (fun i=>i≤x.uses.length∧firstE (useE x.uses) i (x.uses.length - i)=firstE (useE x.uses) 0 x.uses.length) (fun i=>x.uses.length - i) (by decide) 0 ⟨Nat.zero_le _,rfl⟩ (by (try simp only[go_sem]);repeat' (first|exact trivial|refine And.intro ?_ ?_|rfl|(simp (disch:=omega) only[go_sem,if_yes,if_no,if_no];rfl)|(simp (disch:=omega) only[go_sem,if_yes,if_no,if_no]))) (by (try simp only[go_sem]);repeat' (first|exact trivial|refine And.intro ?_ ?_|rfl|(simp (disch:=omega) only[go_sem,if_yes,if_no,if_no];rfl)|(simp (disch:=omega) only[go_sem,if_yes,if_no,if_no]))) (by first|(simp only[go_sem];rfl)|rfl) (by intro n;simp only[go_sem];rfl) ?_
 rintro i c ⟨i1,i2⟩ hc
 simp only[go_sem]
 have hu:useE x.uses i=if ¬ (0≤x.uses.getD i 0∧x.uses.getD i 0≤7) then 2 else if 0 < i∧x.uses.getD i 0≤x.uses.getD (i - 1) 0 then 9 else 0:=rfl
 have ei:((i:Nat):Int).toNat=i:=rfl
 have em:(((i:Nat):Int) - 1).toNat=i - 1:=by omega
 repeat' (first|refine st_seq_reg rfl (by first|(simp only[go_sem];rfl)|rfl) (by first|(simp only[go_sem];rfl)|rfl) ?_|refine st_reg rfl (by first|(simp only[go_sem];rfl)|rfl) (by first|(simp only[go_sem];rfl)|rfl) ?_|refine st_op ?_|refine st_det rfl (by simp (disch:=omega) only[go_sem,wr_i64];rfl) ?_|refine st_loc rfl (by simp (disch:=omega) only[go_sem,wr_i64];rfl) ?_|refine st_heap rfl (by simp (disch:=omega) only[go_sem,wr_i64];rfl) ?_|(refine st_pureE (by first|(simp (disch:=omega) only[go_sem];rfl)|rfl) rfl (c21a _ _ _) (by first|(simp only[go_sem];rfl)|rfl) (by intro n;first|(simp (disch:=omega) only[go_sem];rfl)|rfl) ?_;intro n hn)|refine st_gT rfl rfl rfl ?_|refine st_gF rfl rfl rfl ?_|(refine st_gS rfl rfl ?_ ?_ <;> intro hg <;> (try simp only[dcT,dcF,bnT,bnF] at hg))|refine st_condT rfl ?_|refine st_condF rfl ?_|(refine st_condS rfl ?_ ?_ <;> intro hg <;> (try simp only[dcT,dcF,bnT,bnF] at hg))|refine st_nil ?_|refine st_tN ?_|refine st_seq ?_|refine st_block ?_|refine st_skip ?_|refine st_exit ?_|refine st_ret ?_|refine st_tE ?_|refine st_tR ?_|refine st_bN ?_|refine st_bR ?_|refine st_bH ?_|refine st_bM rfl ?_)
 all_goals try rw [em] at hg
 ·have e:useE x.uses i=2:=by rw [hu,if_pos (by assumption)]
  simp (disch:=omega) only[AEnd,Tryd.results20,aresK,fin,go_sem,implies_true,true_and,and_true,List.reverse_cons,List.reverse_nil]
  rw [← i2,firstE_hit (by omega) e (by decide)]
 ·have e:useE x.uses i=9:=by rw [hu,if_neg (by omega),if_pos (by omega)]
  simp (disch:=omega) only[AEnd,Tryd.results20,aresK,fin,go_sem,implies_true,true_and,and_true,List.reverse_cons,List.reverse_nil]
  rw [← i2,firstE_hit (by omega) e (by decide)]
 ·have e:useE x.uses i=0:=by rw [hu,if_neg (by omega),if_neg (by omega)]
  refine ⟨i+1,⟨by omega,by rw [← i2,firstE_miss (by omega) e]⟩,by omega,(by repeat' (first|exact trivial|refine And.intro ?_ ?_|rfl|(simp (disch:=omega) only[go_sem,if_yes,if_no,if_no];rfl)|(simp (disch:=omega) only[go_sem,if_yes,if_no,if_no]))),(by repeat' (first|exact trivial|refine And.intro ?_ ?_|rfl|(simp (disch:=omega) only[go_sem,if_yes,if_no,if_no];rfl)|(simp (disch:=omega) only[go_sem,if_yes,if_no,if_no]))),rfl,(by first|exact HOld.of _ (by omega)|exact HOld.put _ _ _ (by omega))⟩
 ·have e:useE x.uses i=0:=by rw [hu,if_neg (by omega),if_neg (by omega)]
  refine ⟨i+1,⟨by omega,by rw [← i2,firstE_miss (by omega) e]⟩,by omega,(by repeat' (first|exact trivial|refine And.intro ?_ ?_|rfl|(simp (disch:=omega) only[go_sem,if_yes,if_no,if_no];rfl)|(simp (disch:=omega) only[go_sem,if_yes,if_no,if_no]))),(by repeat' (first|exact trivial|refine And.intro ?_ ?_|rfl|(simp (disch:=omega) only[go_sem,if_yes,if_no,if_no];rfl)|(simp (disch:=omega) only[go_sem,if_yes,if_no,if_no]))),rfl,(by first|exact HOld.of _ (by omega)|exact HOld.put _ _ _ (by omega))⟩
 ·obtain rfl:i=x.uses.length:=by omega
  simp (disch:=omega) only[AEnd,Tryd.results20,aresK,fin,go_sem,implies_true,true_and,and_true,List.reverse_cons,List.reverse_nil]
  rw [← i2,firstE_end]
theorem c6 (l:Lg):Pure Tryd.prog 6 [l.av] (fun v=>v=.int .i64 (chkE l)):=by
 intro h
 refine ACalls.forget (ACalls.of tab mixed Tryd.call6 Tryd.func6 rfl (fi:=⟨56,[4,7],[1,38,44,51],none,[]⟩) rfl rfl (Nat.le_of_ble_eq_true rfl) (by decide) ?_)
 unfold startA
 simp only[go_sem]
 repeat' (first|refine st_seq_reg rfl (by first|(simp only[go_sem];rfl)|rfl) (by first|(simp only[go_sem];rfl)|rfl) ?_|refine st_reg rfl (by first|(simp only[go_sem];rfl)|rfl) (by first|(simp only[go_sem];rfl)|rfl) ?_|refine st_op ?_|refine st_det rfl (by simp (disch:=omega) only[go_sem,wr_i64];rfl) ?_|refine st_loc rfl (by simp (disch:=omega) only[go_sem,wr_i64];rfl) ?_|refine st_heap rfl (by simp (disch:=omega) only[go_sem,wr_i64];rfl) ?_|refine st_store (by simp (disch:=omega) only[go_sem,wr_i64];rfl) ?_|refine st_gT rfl rfl rfl ?_|refine st_gF rfl rfl rfl ?_|(refine st_gS rfl rfl ?_ ?_ <;> intro hg <;> (try simp only[dcT,dcF,bnT,bnF] at hg))|refine st_condT rfl ?_|refine st_condF rfl ?_|(refine st_condS rfl ?_ ?_ <;> intro hg <;> (try simp only[dcT,dcF,bnT,bnF] at hg))|refine st_nil ?_|refine st_tN ?_|refine st_seq ?_|refine st_block ?_|refine st_skip ?_|refine st_exit ?_|refine st_ret ?_|refine st_tE ?_|refine st_tR ?_|refine st_bN ?_|refine st_bR ?_|refine st_bH ?_|refine st_bM rfl ?_)
 ·simp (disch:=omega) only[AEnd,Tryd.results6,aresK,fin,go_sem,implies_true,true_and,and_true,List.reverse_cons,List.reverse_nil]
  unfold chkE;rw [if_pos (by omega)]
 refine st_loopC (α:=Nat) tab mixed [] [] (by repeat (first|exact trivial|refine ⟨rfl,?_⟩)) [] [] (by repeat (first|exact trivial|refine ⟨rfl,?_⟩)) (fun i=>[(15,.int .i64 i)]) [(1,_),(13,_),(14,_)] (fun _=>[]) [] (fun i=>i≤l.fs.length∧firstE (fun i=>fundE (fd l.fs i)) i (l.fs.length - i)=fundsE l) (fun i=>l.fs.length - i) (by decide) 0 ⟨Nat.zero_le _,rfl⟩ (by (try simp only[go_sem]);repeat' (first|exact trivial|refine And.intro ?_ ?_|rfl|(simp (disch:=omega) only[go_sem,if_yes,if_no,if_no];rfl)|(simp (disch:=omega) only[go_sem,if_yes,if_no,if_no]))) (by (try simp only[go_sem]);repeat' (first|exact trivial|refine And.intro ?_ ?_|rfl|(simp (disch:=omega) only[go_sem,if_yes,if_no,if_no];rfl)|(simp (disch:=omega) only[go_sem,if_yes,if_no,if_no]))) (by first|(simp only[go_sem];rfl)|rfl) (by intro n;simp only[go_sem];rfl) ?_
 rintro i c ⟨i1,i2⟩ hc
 simp only[go_sem]
 repeat' (first|refine st_seq_reg rfl (by first|(simp only[go_sem];rfl)|rfl) (by first|(simp only[go_sem];rfl)|rfl) ?_|refine st_reg rfl (by first|(simp only[go_sem];rfl)|rfl) (by first|(simp only[go_sem];rfl)|rfl) ?_|refine st_op ?_|refine st_det rfl (by simp (disch:=omega) only[go_sem,wr_i64];rfl) ?_|refine st_loc rfl (by simp (disch:=omega) only[go_sem,wr_i64];rfl) ?_|refine st_heap rfl (by simp (disch:=omega) only[go_sem,wr_i64];rfl) ?_|refine st_store (by simp (disch:=omega) only[go_sem,wr_i64];rfl) ?_|(refine st_pureE (by first|(simp (disch:=omega) only[go_sem];rfl)|rfl) rfl (c20 (fd l.fs i)) (by first|(simp only[go_sem];rfl)|rfl) (by intro n;first|(simp (disch:=omega) only[go_sem];rfl)|rfl) ?_;intro n hn)|refine st_gT rfl rfl rfl ?_|refine st_gF rfl rfl rfl ?_|(refine st_gS rfl rfl ?_ ?_ <;> intro hg <;> (try simp only[dcT,dcF,bnT,bnF] at hg))|refine st_condT rfl ?_|refine st_condF rfl ?_|(refine st_condS rfl ?_ ?_ <;> intro hg <;> (try simp only[dcT,dcF,bnT,bnF] at hg))|refine st_nil ?_|refine st_tN ?_|refine st_seq ?_|refine st_block ?_|refine st_skip ?_|refine st_exit ?_|refine st_ret ?_|refine st_tE ?_|refine st_tR ?_|refine st_bN ?_|refine st_bR ?_|refine st_bH ?_|refine st_bM rfl ?_)
 ·have e:fundsE l=fundE (fd l.fs i):=by rw [← i2,firstE_hit (by omega) rfl (by omega)]
  simp (disch:=omega) only[AEnd,Tryd.results6,aresK,fin,go_sem,implies_true,true_and,and_true,List.reverse_cons,List.reverse_nil]
  unfold chkE;rw [if_neg (by omega),if_pos (by omega),e]
 ·refine ⟨i+1,⟨by omega,by rw [← i2,firstE_miss (by omega) (by omega)]⟩,by omega,(by repeat' (first|exact trivial|refine And.intro ?_ ?_|rfl|(simp (disch:=omega) only[go_sem,if_yes,if_no,if_no];rfl)|(simp (disch:=omega) only[go_sem,if_yes,if_no,if_no]))),(by repeat' (first|exact trivial|refine And.intro ?_ ?_|rfl|(simp (disch:=omega) only[go_sem,if_yes,if_no,if_no];rfl)|(simp (disch:=omega) only[go_sem,if_yes,if_no,if_no]))),rfl,(by first|exact HOld.of _ (by omega)|exact HOld.put _ _ _ (by omega))⟩
 ·obtain rfl:i=l.fs.length:=by omega
  have e:fundsE l=0:=by rw [← i2,firstE_end]
  simp (disch:=omega) only[AEnd,Tryd.results6,aresK,fin,go_sem,implies_true,true_and,and_true,List.reverse_cons,List.reverse_nil]
  unfold chkE;rw [if_neg (by omega),if_neg (by omega),if_pos (by omega)]
 obtain rfl:i=l.fs.length:=by omega
 have e:fundsE l=0:=by rw [← i2,firstE_end]
 have e0:chkE l=firstE (fun i=>billE (bl l.bs i)) 0 l.bs.length:=by unfold chkE;rw [if_neg (by omega),if_neg (by omega),if_neg (by omega)]
 rw [e0]
 clear i2 i1 hc
 refine st_loopC (α:=Nat) tab mixed [] [] (by repeat (first|exact trivial|refine ⟨rfl,?_⟩)) [] [] (by repeat (first|exact trivial|refine ⟨rfl,?_⟩)) (fun i=>[(32,.int .i64 i)]) [(1,_),(30,_),(31,_)] (fun _=>[]) [] (fun i=>i≤l.bs.length∧firstE (fun i=>billE (bl l.bs i)) i (l.bs.length - i)=firstE (fun i=>billE (bl l.bs i)) 0 l.bs.length) (fun i=>l.bs.length - i) (by decide) 0 ⟨Nat.zero_le _,rfl⟩ (by (try simp only[go_sem]);repeat' (first|exact trivial|refine And.intro ?_ ?_|rfl|(simp (disch:=omega) only[go_sem,if_yes,if_no,if_no];rfl)|(simp (disch:=omega) only[go_sem,if_yes,if_no,if_no]))) (by (try simp only[go_sem]);repeat' (first|exact trivial|refine And.intro ?_ ?_|rfl|(simp (disch:=omega) only[go_sem,if_yes,if_no,if_no];rfl)|(simp (disch:=omega) only[go_sem,if_yes,if_no,if_no]))) (by first|(simp only[go_sem];rfl)|rfl) (by intro n;simp only[go_sem];rfl) ?_
 rintro i c ⟨i1,i2⟩ hc
 simp only[go_sem]
 have hu:billE (bl l.bs i)=if 0≤(bl l.bs i).day∧(bl l.bs i).day≤3650∧0≤(bl l.bs i).use∧(bl l.bs i).use≤7∧0≤(bl l.bs i).amt∧(bl l.bs i).amt≤1000000000 then 0 else 2:=rfl
 repeat' (first|refine st_seq_reg rfl (by first|(simp only[go_sem];rfl)|rfl) (by first|(simp only[go_sem];rfl)|rfl) ?_|refine st_reg rfl (by first|(simp only[go_sem];rfl)|rfl) (by first|(simp only[go_sem];rfl)|rfl) ?_|refine st_op ?_|refine st_det rfl (by simp (disch:=omega) only[go_sem,wr_i64];rfl) ?_|refine st_loc rfl (by simp (disch:=omega) only[go_sem,wr_i64];rfl) ?_|refine st_heap rfl (by simp (disch:=omega) only[go_sem,wr_i64];rfl) ?_|refine st_store (by simp (disch:=omega) only[go_sem,wr_i64];rfl) ?_|(refine st_pureE (by first|(simp (disch:=omega) only[go_sem];rfl)|rfl) rfl (c21a _ _ _) (by first|(simp only[go_sem];rfl)|rfl) (by intro n;first|(simp (disch:=omega) only[go_sem];rfl)|rfl) ?_;intro n hn)|refine st_gT rfl rfl rfl ?_|refine st_gF rfl rfl rfl ?_|(refine st_gS rfl rfl ?_ ?_ <;> intro hg <;> (try simp only[dcT,dcF,bnT,bnF] at hg))|refine st_condT rfl ?_|refine st_condF rfl ?_|(refine st_condS rfl ?_ ?_ <;> intro hg <;> (try simp only[dcT,dcF,bnT,bnF] at hg))|refine st_nil ?_|refine st_tN ?_|refine st_seq ?_|refine st_block ?_|refine st_skip ?_|refine st_exit ?_|refine st_ret ?_|refine st_tE ?_|refine st_tR ?_|refine st_bN ?_|refine st_bR ?_|refine st_bH ?_|refine st_bM rfl ?_)
 ·have e:billE (bl l.bs i)=2:=by rw [hu,if_neg (by omega)]
  simp (disch:=omega) only[AEnd,Tryd.results6,aresK,fin,go_sem,implies_true,true_and,and_true,List.reverse_cons,List.reverse_nil]
  rw [← i2,firstE_hit (by omega) e (by decide)]
 ·have e:billE (bl l.bs i)=2:=by rw [hu,if_neg (by omega)]
  simp (disch:=omega) only[AEnd,Tryd.results6,aresK,fin,go_sem,implies_true,true_and,and_true,List.reverse_cons,List.reverse_nil]
  rw [← i2,firstE_hit (by omega) e (by decide)]
 ·have e:billE (bl l.bs i)=2:=by rw [hu,if_neg (by omega)]
  simp (disch:=omega) only[AEnd,Tryd.results6,aresK,fin,go_sem,implies_true,true_and,and_true,List.reverse_cons,List.reverse_nil]
  rw [← i2,firstE_hit (by omega) e (by decide)]
 ·have e:billE (bl l.bs i)=0:=by rw [hu,if_pos (by omega)]
  refine ⟨i+1,⟨by omega,by rw [← i2,firstE_miss (by omega) e]⟩,by omega,(by repeat' (first|exact trivial|refine And.intro ?_ ?_|rfl|(simp (disch:=omega) only[go_sem,if_yes,if_no,if_no];rfl)|(simp (disch:=omega) only[go_sem,if_yes,if_no,if_no]))),(by repeat' (first|exact trivial|refine And.intro ?_ ?_|rfl|(simp (disch:=omega) only[go_sem,if_yes,if_no,if_no];rfl)|(simp (disch:=omega) only[go_sem,if_yes,if_no,if_no]))),rfl,(by first|exact HOld.of _ (by omega)|exact HOld.put _ _ _ (by omega))⟩
 ·obtain rfl:i=l.bs.length:=by omega
  simp (disch:=omega) only[AEnd,Tryd.results6,aresK,fin,go_sem,implies_true,true_and,and_true,List.reverse_cons,List.reverse_nil]
  rw [← i2,firstE_end]
end Go.Proofs.YtefogfgddofdmaaDoor

namespace Go.Proofs.YtefogfgddofdmaaDoor
open Go.Av Go.Txt Go.Lib
set_option maxRecDepth 20000
def wFund:List UInt8:=[102,117,110,100]
def wBill:List UInt8:=[98,105,108,108]
def wEnd:List UInt8:=[101,110,100]
def fdN (x:Fd):List Int:=[x.day,x.till,x.amt] ++ x.uses
def blN (x:Bl):List Int:=[x.day,x.use,x.amt]
def fdT (x:Fd):List UInt8:=rowT wFund (fdN x)
def blT (x:Bl):List UInt8:=rowT wBill (blN x)
def bookT (l:Lg):List UInt8:=l.fs.flatMap fdT ++ l.bs.flatMap blT ++ rowT wEnd [(l.bs.length:Int)]
def wrV (l:Lg):AV:=if chkE l=0 then .tup [.str (bookT l),.int .i64 0] else .tup [.str [],.int .i64 (chkE l)]
def Sm (l:List Int):Prop:=∀ x ∈ l,0≤x∧x < 10000000000
theorem fd_sm {x:Fd} (h:FdOk x):Sm (fdN x)∧(fdN x).length≤11:=by
 have h1:=h.day;have h2:=h.amt;have h3:=h.many
 refine ⟨?_,by unfold fdN;simp;omega⟩
 intro y hy
 simp only[fdN,List.mem_append,List.mem_cons,List.not_mem_nil,or_false] at hy
 rcases hy with (rfl|rfl|rfl)|hy
 ·omega
 ·omega
 ·omega
 ·have:=h.uses y hy;omega
theorem bl_sm {x:Bl} (h:BlOk x):Sm (blN x):=by
 have h1:=h.day;have h2:=h.amt;have h3:=h.use
 intro y hy
 simp only[blN,List.mem_cons,List.not_mem_nil,or_false] at hy
 rcases hy with rfl|rfl|rfl <;> omega
theorem Sm.dec {l:List Int} (h:Sm l):∀ x ∈ l,0≤x∧(decDigits x.toNat).length≤10:=fun x hx=>⟨(h x hx).1,dec_len 9 _ (by have:=h x hx;omega)⟩
theorem numsT_sm:∀ {l:List Int},Sm l→(numsT l).length≤11 * l.length
 | [],_=>by simp [numsT]
 | x :: l,h=>by
  have h1:=Sm.dec h x (by simp)
  have h2:=numsT_sm (l:=l) (fun y hy=>h y (by simp [hy]))
  unfold numsT at h2 ⊢
  rw [List.flatMap_cons,List.length_append,List.length_cons,List.length_cons,itoa_nn h1.1]
  omega
theorem rowT_sm {w:List UInt8} {l:List Int} (h:Sm l):(rowT w l).length≤w.length+11 * l.length+1:=by
 have:=numsT_sm h
 unfold rowT
 simp only[List.length_append,List.length_cons,List.length_nil]
 omega
theorem flat_take {α:Type} {f:α→List UInt8} {l:List α} {d:α} {i:Nat} (h:i < l.length):(l.take (i+1)).flatMap f=(l.take i).flatMap f ++ f (l.getD i d):=by
 rw [List.take_add_one,List.flatMap_append,List.getElem?_eq_getElem h,List.getD_eq_getElem?_getD,List.getElem?_eq_getElem h]
 simp
theorem flat_len {α:Type} {f:α→List UInt8} {n:Nat} {l:List α} (h:∀ x ∈ l,(f x).length≤n):(l.flatMap f).length≤n * l.length:=by
 induction l with
 | nil=>simp
 | cons x l ih =>
  have h1:=h x (by simp)
  have h2:=ih (fun y hy=>h y (by simp [hy]))
  rw [List.flatMap_cons,List.length_append,List.length_cons,Nat.mul_succ]
  omega
theorem fdT_len {x:Fd} (h:FdOk x):(fdT x).length≤130:=by
 have:=rowT_sm (w:=wFund) (fd_sm h).1
 have e:wFund.length=4:=rfl
 have e2:=(fd_sm h).2
 unfold fdT;omega
theorem blT_len {x:Bl} (h:BlOk x):(blT x).length≤40:=by
 have:=rowT_sm (w:=wBill) (bl_sm h)
 have e:wBill.length=4:=rfl
 have e2:(blN x).length=3:=rfl
 unfold blT;omega
theorem Sm.ok {l:List Int} (h:Sm l) (hl:l.length≤1000):NumOk l:=⟨by omega,fun x hx=>by have:=h x hx;omega⟩
theorem sm_len {n:Nat} (h:n≤20):Sm [(n:Int)]:=by intro x hx;simp at hx;omega
end Go.Proofs.YtefogfgddofdmaaDoor

namespace Go.Proofs.YtefogfgddofdmaaDoor
open Go.Av Go.Txt Go.Lib
attribute [local irreducible] thenA blockA awp awpOps awpD awp1
attribute [local go_sem_proc] Nat.reduceAdd Nat.reduceMul Nat.reduceEqDiff Nat.reduceBEq Nat.reduceLeDiff
attribute [local go_sem_proc ↓] reduceIte
attribute [local go_sem] if_yes if_no
set_option maxHeartbeats 8000000
set_option maxRecDepth 20000
theorem c37 (word:List UInt8) (l:List Int) (lb:Nat) (bs:List UInt8) (h0 h:AH) (hgl:h.gl=gT) (hB:BdZ h0 h lb bs) (hn:NumOk l) (hb:bs.length≤1000000000) (hw:word.length≤1000) :
  ACalls Tryd.prog 37 [.gptr lb 0,.str word,.lst 1 (l.map iv)] h (fun v h'=>v=.tup []∧BdZ h0 h' lb (bs ++ rowT word l)∧h'.at_=h.at_∧h.clk≤h'.clk∧h'.gl=h.gl):=by
 obtain ⟨hn1,hn2⟩:=hn
 have hB0:BdZ h0 (h.tick (h.clk+1)) lb bs:=hB
 have hlen:∀ i,(numsT (l.take i)).length≤22000000:=fun i=>by
  have:=numsT_len (l:=l.take i) (fun x hx=>hn2 x (List.mem_of_mem_take hx))
  rw [List.length_take] at this
  omega
 refine ACalls.ofS tab Tryd.call37 Tryd.func37 rfl (fi:=⟨25,[],[],none,[]⟩) rfl rfl (Nat.le_of_ble_eq_true rfl) ?_
 unfold startA
 try simp only[go_sem]
 refine asem_awp (fi:=⟨25,[],[],none,[]⟩) tab mixed (by decide) ?_
 repeat' (first|refine st_seq_reg rfl (by first|(simp only[go_sem];rfl)|rfl) (by first|(simp only[go_sem];rfl)|rfl) ?_|refine st_reg rfl (by first|(simp only[go_sem];rfl)|rfl) (by first|(simp only[go_sem];rfl)|rfl) ?_|refine st_op ?_|refine st_det rfl (by simp (disch:=omega) only[go_sem,wr_i64];rfl) ?_|(refine st_callf rfl rfl (c45 hB0 (s:=word) (by omega)) ?_;rintro v' h1 ⟨rfl,hB1,ha1,hk1,hg1⟩)|refine st_condT rfl ?_|refine st_condF rfl ?_|(refine st_condS rfl ?_ ?_ <;> intro hg <;> (try simp only[dcT,dcF,bnT,bnF] at hg))|refine st_nil ?_|refine st_tN ?_|refine st_seq ?_|refine st_block ?_|refine st_skip ?_|refine st_exit ?_|refine st_ret ?_|refine st_tE ?_|refine st_tR ?_|refine st_bN ?_|refine st_bR ?_|refine st_bH ?_|refine st_bM rfl ?_)
 have hgl1:h1.gl=gT:=hg1.trans hgl
 repeat' (first|refine st_seq_reg rfl (by first|(simp only[go_sem,Lm];rfl)|rfl) (by first|(simp only[go_sem,Lm];rfl)|rfl) ?_|refine st_reg rfl (by first|(simp only[go_sem,Lm];rfl)|rfl) (by first|(simp only[go_sem,Lm];rfl)|rfl) ?_|refine st_op ?_|refine st_det rfl (by simp (disch:=omega) only[go_sem,wr_i64,Lm];rfl) ?_|refine st_condT rfl ?_|refine st_condF rfl ?_|(refine st_condS rfl ?_ ?_ <;> intro hg <;> (try simp only[dcT,dcF,bnT,bnF] at hg))|refine st_nil ?_|refine st_tN ?_|refine st_seq ?_|refine st_block ?_|refine st_skip ?_|refine st_exit ?_|refine st_ret ?_|refine st_tE ?_|refine st_tR ?_|refine st_bN ?_|refine st_bR ?_|refine st_bH ?_|refine st_bM rfl ?_)
 refine st_loopH (α:=Nat × AH) tab mixed [] [] (by repeat (first|exact trivial|refine ⟨rfl,?_⟩)) [] [] (by repeat (first|exact trivial|refine ⟨rfl,?_⟩)) (fun a=>[(13,.int .i64 (a.1:Nat))]) [(0,_),(1,_),(2,_),(11,_),(12,_)] (fun _=>[]) [] (fun a=>a.2) (fun a=>a.1≤l.length∧BdZ h0 a.2 lb (bs ++ word ++ numsT (l.take a.1))∧a.2.at_=h.at_∧h.clk≤a.2.clk∧a.2.gl=gT) (fun a=>l.length - a.1) (by decide) (0,_) (by exact ⟨Nat.zero_le _,by show BdZ h0 h1 lb _;simpa [numsT] using hB1,ha1,by simp only[go_sem] at hk1 ⊢;omega,hgl1⟩) (by (try simp only[go_sem]);repeat' (first|exact trivial|refine And.intro ?_ ?_|rfl|(simp (disch:=omega) only[go_sem,if_yes,if_no,if_no];rfl)|(simp (disch:=omega) only[go_sem,if_yes,if_no,if_no]))) (by (try simp only[go_sem]);repeat' (first|exact trivial|refine And.intro ?_ ?_|rfl|(simp (disch:=omega) only[go_sem,if_yes,if_no,if_no];rfl)|(simp (disch:=omega) only[go_sem,if_yes,if_no,if_no]))) (HOld.refl _) ?_
 rintro ⟨i,g2⟩ c2 ⟨hi,hB2,ha2,hk2,hg2⟩ hc2
 dsimp only at hi hB2 ha2 hk2 hg2 hc2
 simp only[go_sem]
 by_cases hil:i < l.length
 case neg =>
  obtain rfl:i=l.length:=by omega
  have hB3:BdZ h0 (g2.tick (c2+1+1)) lb (bs ++ word ++ numsT l):=by rw [List.take_length] at hB2;exact hB2
  have hlt:=hlen l.length
  rw [List.take_length] at hlt
  repeat' (first|refine st_seq_reg rfl (by first|(simp only[go_sem,Lm];rfl)|rfl) (by first|(simp only[go_sem,Lm];rfl)|rfl) ?_|refine st_reg rfl (by first|(simp only[go_sem,Lm];rfl)|rfl) (by first|(simp only[go_sem,Lm];rfl)|rfl) ?_|refine st_op ?_|refine st_det rfl (by simp (disch:=omega) only[go_sem,wr_i64,Lm];rfl) ?_|(refine st_callf rfl rfl (c47 10 hB3 (by simp only[List.length_append];omega)) ?_;rintro v' h2 ⟨rfl,hB4,ha4,hk4,hg4⟩)|refine st_condT rfl ?_|refine st_condF rfl ?_|(refine st_condS rfl ?_ ?_ <;> intro hg <;> (try simp only[dcT,dcF,bnT,bnF] at hg))|refine st_nil ?_|refine st_tN ?_|refine st_seq ?_|refine st_block ?_|refine st_skip ?_|refine st_exit ?_|refine st_ret ?_|refine st_tE ?_|refine st_tR ?_|refine st_bN ?_|refine st_bR ?_|refine st_bH ?_|refine st_bM rfl ?_)
  all_goals try (exfalso;omega)
  simp (disch:=omega) only[AEnd,Tryd.results37,aresK,fin,go_sem,implies_true,true_and,and_true,List.reverse_cons,List.reverse_nil]
  refine ⟨?_,ha4.trans ha2,?_,hg4.trans (hg2.trans hgl.symm)⟩
  ·show BdZ h0 h2 lb _
   have e:bs ++ rowT word l=bs ++ word ++ numsT l ++ [10]:=by unfold rowT;simp [List.append_assoc]
   rw [e];exact hB4
  ·show h.clk≤h2.clk
   have:h2.clk=c2+1+1:=hk4
   omega
 have hx:=hn2 _ (int_mem hil)
 have hit:=itoa_length_le _ hx.1 hx.2
 have hB3:∀ n,BdZ h0 (g2.tick n) lb (bs ++ word ++ numsT (l.take i)):=fun _=>hB2
 have hlt:=hlen i
 repeat' (first|refine st_seq_reg rfl (by first|(simp only[go_sem,Lm,iv_getD hil];rfl)|rfl) (by first|(simp only[go_sem,Lm,iv_getD hil];rfl)|rfl) ?_|refine st_reg rfl (by first|(simp only[go_sem,Lm,iv_getD hil];rfl)|rfl) (by first|(simp only[go_sem,Lm,iv_getD hil];rfl)|rfl) ?_|refine st_op ?_|refine st_det rfl (by simp (disch:=omega) only[go_sem,wr_i64,Lm,iv_getD hil];rfl) ?_|(refine st_pureGE rfl rfl (c46 (l.getD i 0) hx.1 hx.2) (by exact hg2) (by rfl) (by intro n;rfl) ?_;intro n hn)|(refine st_callf rfl rfl (c45 (hB3 _) (s:=32 :: itoa (l.getD i 0)) (by simp only[List.length_append,List.length_cons];omega)) ?_;rintro v' h2 ⟨rfl,hB4,ha4,hk4,hg4⟩)|refine st_condT rfl ?_|refine st_condF rfl ?_|(refine st_condS rfl ?_ ?_ <;> intro hg <;> (try simp only[dcT,dcF,bnT,bnF] at hg))|refine st_nil ?_|refine st_tN ?_|refine st_seq ?_|refine st_block ?_|refine st_skip ?_|refine st_exit ?_|refine st_ret ?_|refine st_tE ?_|refine st_tR ?_|refine st_bN ?_|refine st_bR ?_|refine st_bH ?_|refine st_bM rfl ?_)
 all_goals try (exfalso;omega)
 have hB5:BdZ h0 h2 lb (bs ++ word ++ numsT (l.take (i+1))):=by rw [numsT_take hil,← List.append_assoc];exact hB4
 refine ⟨(i+1,_),(by exact ⟨by show i+1≤l.length;omega,hB5,ha4.trans ha2,by (have e4:h2.clk=n:=hk4;have e5:c2≤n:=Nat.le_trans (Nat.le_add_right _ 3) hn;try simp only[go_sem];omega),hg4.trans hg2⟩),(by show l.length - (i+1) < l.length - i;omega),(by repeat' (first|exact trivial|refine And.intro ?_ ?_|rfl|(simp (disch:=omega) only[go_sem,if_yes,if_no,if_no];rfl)|(simp (disch:=omega) only[go_sem,if_yes,if_no,if_no]))),(by repeat' (first|exact trivial|refine And.intro ?_ ?_|rfl|(simp (disch:=omega) only[go_sem,if_yes,if_no,if_no];rfl)|(simp (disch:=omega) only[go_sem,if_yes,if_no,if_no]))),rfl,HOld.refl _⟩
end Go.Proofs.YtefogfgddofdmaaDoor
