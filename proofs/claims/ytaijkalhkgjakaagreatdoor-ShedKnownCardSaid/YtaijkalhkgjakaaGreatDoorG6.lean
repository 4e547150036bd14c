/- Contracts of functions that the claim reaches: what each call gives, told in our own logic. Conditions: those of each theorem. -/
import Derived.Test.YtaijkalhkgjakaaGreatDoorF5
import Derived.Test.YtaijkalhkgjakaaGreatDoorP1
import Derived.Test.YtaijkalhkgjakaaGreatDoorP4
open List (length_map)
set_option linter.all false
set_option linter.unusedSimpArgs false
set_option linter.unusedVariables false
namespace Go.Proofs.YtaijkalhkgjakaaGreatDoor
open Go.Av Go.Txt Go.Lib
attribute [local irreducible] thenA blockA awp awpOps awpD awp1
attribute [local go_sem_proc] Nat.reduceAdd Nat.reduceMul Nat.reduceEqDiff Nat.reduceBEq Nat.reduceLeDiff
attribute [local go_sem_proc ↓] reduceIte
attribute [local go_sem] if_yes if_no
set_option maxHeartbeats 8000000
set_option maxRecDepth 20000
def numsT (l:List Int):List UInt8:=l.flatMap fun n=>32 :: itoa n
def rowT (w:List UInt8) (l:List Int):List UInt8:=w ++ numsT l ++ [10]
def NumOk (l:List Int):Prop:=l.length≤1000000∧∀ x ∈ l,-9223372036854775808≤x∧x≤9223372036854775807
theorem numsT_len {l:List Int} (h:∀ x ∈ l,-9223372036854775808≤x∧x≤9223372036854775807):(numsT l).length≤22 * l.length:=by
 induction l with
 | nil=>exact Nat.le_refl _
 | cons x l ih =>
  have h1:=h x (by simp)
  have h2:=itoa_length_le x h1.1 h1.2
  have h3:=ih (fun y hy=>h y (by simp [hy]))
  unfold numsT at h3 ⊢
  rw [List.flatMap_cons,List.length_append,List.length_cons,List.length_cons]
  omega
theorem numsT_take {l:List Int} {i:Nat} (h:i < l.length):numsT (l.take (i+1))=numsT (l.take i) ++ (32 :: itoa (l.getD i 0)):=by
 unfold numsT
 rw [List.take_succ,List.flatMap_append,List.getElem?_eq_getElem h,List.getD_eq_getElem?_getD,List.getElem?_eq_getElem h]
 simp
theorem iv_getD {l:List Int} {i:Nat} (h:i < l.length):(l.map iv).getD i []=[.int .i64 (l.getD i 0)]:=by
 rw [List.getD_eq_getElem?_getD,List.getElem?_map,List.getElem?_eq_getElem h,List.getD_eq_getElem?_getD,List.getElem?_eq_getElem h];rfl
theorem int_mem {l:List Int} {i:Nat} (h:i < l.length):l.getD i 0 ∈ l:=by
 rw [List.getD_eq_getElem?_getD,List.getElem?_eq_getElem h];exact List.getElem_mem h
theorem c77 (word:List UInt8) (l:List Int) (lb:Nat) (bs:List UInt8) (h0 h:AH) (hgl:h.gl=gT) (hB:BdZ h0 h lb bs) (hn:NumOk l) (hb:bs.length≤1000000000) (hw:word.length≤1000) :
  ACalls Tryz.prog 77 [.str word,.lst 1 (l.map iv),.gptr lb 0] h (fun v h'=>v=.tup []∧BdZ h0 h' lb (bs ++ rowT word l)∧h'.at_=h.at_∧h.clk≤h'.clk∧h'.gl=h.gl):=by
 obtain ⟨hn1,hn2⟩:=hn
 have hB0:BdZ h0 (h.tick (h.clk+1)) lb bs:=hB
 have hlen:∀ i,(numsT (l.take i)).length≤22000000:=fun i=>by
  have:=numsT_len (l:=l.take i) (fun x hx=>hn2 x (List.mem_of_mem_take hx))
  rw [List.length_take] at this
  omega
 refine ACalls.ofS tab Tryz.call77 Tryz.func77 rfl (fi:=⟨21,[],[],none,[]⟩) rfl rfl (Nat.le_of_ble_eq_true rfl) ?_
 unfold startA
 try simp only[go_sem]
 refine asem_awp (fi:=⟨21,[],[],none,[]⟩) tab mixed (by decide) ?_
 repeat' (first|refine st_seq_reg rfl (by first|(simp only[go_sem];rfl)|rfl) (by first|(simp only[go_sem];rfl)|rfl) ?_|refine st_op ?_|refine st_det rfl (by simp (disch:=omega) only[go_sem,wr_i64];rfl) ?_|(refine st_callf rfl rfl (c78 hB0 (s:=word) (by omega)) ?_;rintro v' h1 ⟨rfl,hB1,ha1,hk1,hg1⟩)|refine st_nil ?_|refine st_seq ?_|refine st_block ?_)
 have hgl1:h1.gl=gT:=hg1.trans hgl
 repeat' (first|refine st_seq_reg rfl (by first|(simp only[go_sem,Lm];rfl)|rfl) (by first|(simp only[go_sem,Lm];rfl)|rfl) ?_)
 refine st_loopH (α:=Nat × AH) tab mixed [] [] (by repeat (first|exact trivial|refine ⟨rfl,?_⟩)) [] [] (by repeat (first|exact trivial|refine ⟨rfl,?_⟩)) (fun a=>[(11,.int .i64 (a.1:Nat))]) [(0,_),(1,_),(2,_),(9,_),(10,_)] (fun _=>[]) [] (fun a=>a.2) (fun a=>a.1≤l.length∧BdZ h0 a.2 lb (bs ++ word ++ numsT (l.take a.1))∧a.2.at_=h.at_∧h.clk≤a.2.clk∧a.2.gl=gT) (fun a=>l.length - a.1) (by decide) (0,_) (by exact ⟨Nat.zero_le _,by show BdZ h0 h1 lb _;simpa [numsT] using hB1,ha1,by simp only[go_sem] at hk1 ⊢;omega,hgl1⟩) (by (try simp only[go_sem]);repeat' (first|exact trivial|refine And.intro ?_ ?_|rfl|(simp (disch:=omega) only[go_sem,if_yes,if_no,if_no];rfl)|(simp (disch:=omega) only[go_sem,if_yes,if_no,if_no]))) (by (try simp only[go_sem]);repeat' (first|exact trivial|refine And.intro ?_ ?_|rfl|(simp (disch:=omega) only[go_sem,if_yes,if_no,if_no];rfl)|(simp (disch:=omega) only[go_sem,if_yes,if_no,if_no]))) (HOld.refl _) ?_
 rintro ⟨i,g2⟩ c2 ⟨hi,hB2,ha2,hk2,hg2⟩ hc2
 dsimp only at hi hB2 ha2 hk2 hg2 hc2
 simp only[go_sem]
 by_cases hil:i < l.length
 case neg =>
  obtain rfl:i=l.length:=by omega
  have hB3:BdZ h0 (g2.tick (c2+1+1)) lb (bs ++ word ++ numsT l):=by rw [List.take_length] at hB2;exact hB2
  have hlt:=hlen l.length
  rw [List.take_length] at hlt
  repeat' (first|refine st_seq_reg rfl (by first|(simp only[go_sem,Lm];rfl)|rfl) (by first|(simp only[go_sem,Lm];rfl)|rfl) ?_|refine st_reg rfl (by first|(simp only[go_sem,Lm];rfl)|rfl) (by first|(simp only[go_sem,Lm];rfl)|rfl) ?_|refine st_op ?_|refine st_det rfl (by simp (disch:=omega) only[go_sem,wr_i64,Lm];rfl) ?_|(refine st_callf rfl rfl (c80 10 hB3 (by simp only[List.length_append];omega)) ?_;rintro v' h2 ⟨rfl,hB4,ha4,hk4,hg4⟩)|(refine st_condS rfl ?_ ?_ <;> intro hg <;> (try simp only[dcT,dcF,bnT,bnF] at hg))|refine st_nil ?_|refine st_tN ?_|refine st_seq ?_|refine st_block ?_|refine st_skip ?_|refine st_exit ?_|refine st_tE ?_|refine st_bH ?_)
  all_goals try (exfalso;omega)
  simp (disch:=omega) only[AEnd,Tryz.results77,aresK,fin,go_sem,implies_true,true_and,and_true,List.reverse_cons,List.reverse_nil]
  refine ⟨?_,ha4.trans ha2,?_,hg4.trans (hg2.trans hgl.symm)⟩
  ·show BdZ h0 h2 lb _
   have e:bs ++ rowT word l=bs ++ word ++ numsT l ++ [10]:=by unfold rowT;simp [List.append_assoc]
   rw [e];exact hB4
  ·show h.clk≤h2.clk
   have:h2.clk=c2+1+1:=hk4
   omega
 have hx:=hn2 _ (int_mem hil)
 have hit:=itoa_length_le _ hx.1 hx.2
 have hB3:∀ n,BdZ h0 (g2.tick n) lb (bs ++ word ++ numsT (l.take i)):=fun _=>hB2
 have hlt:=hlen i
 repeat' (first|refine st_seq_reg rfl (by first|(simp only[go_sem,Lm,iv_getD hil];rfl)|rfl) (by first|(simp only[go_sem,Lm,iv_getD hil];rfl)|rfl) ?_|refine st_reg rfl (by first|(simp only[go_sem,Lm,iv_getD hil];rfl)|rfl) (by first|(simp only[go_sem,Lm,iv_getD hil];rfl)|rfl) ?_|refine st_op ?_|refine st_det rfl (by simp (disch:=omega) only[go_sem,wr_i64,Lm,iv_getD hil];rfl) ?_|(refine st_pureGE rfl rfl (c79 (l.getD i 0) hx.1 hx.2) (by exact hg2) (by rfl) (by intro n;rfl) ?_;intro n hn)|(refine st_callf rfl rfl (c78 (hB3 _) (s:=32 :: itoa (l.getD i 0)) (by simp only[List.length_append,List.length_cons];omega)) ?_;rintro v' h2 ⟨rfl,hB4,ha4,hk4,hg4⟩)|(refine st_condS rfl ?_ ?_ <;> intro hg <;> (try simp only[dcT,dcF,bnT,bnF] at hg))|refine st_nil ?_|refine st_tN ?_|refine st_seq ?_|refine st_block ?_|refine st_skip ?_|refine st_exit ?_|refine st_tE ?_|refine st_bN ?_|refine st_bH ?_)
 all_goals try (exfalso;omega)
 have hB5:BdZ h0 h2 lb (bs ++ word ++ numsT (l.take (i+1))):=by rw [numsT_take hil,← List.append_assoc];exact hB4
 refine ⟨(i+1,_),(by exact ⟨by show i+1≤l.length;omega,hB5,ha4.trans ha2,by (have e4:h2.clk=n:=hk4;have e5:c2≤n:=Nat.le_trans (Nat.le_add_right _ 3) hn;try simp only[go_sem];omega),hg4.trans hg2⟩),(by show l.length - (i+1) < l.length - i;omega),(by repeat' (first|exact trivial|refine And.intro ?_ ?_|rfl|(simp (disch:=omega) only[go_sem,if_yes,if_no,if_no];rfl)|(simp (disch:=omega) only[go_sem,if_yes,if_no,if_no]))),(by repeat' (first|exact trivial|refine And.intro ?_ ?_|rfl|(simp (disch:=omega) only[go_sem,if_yes,if_no,if_no];rfl)|(simp (disch:=omega) only[go_sem,if_yes,if_no,if_no]))),rfl,HOld.refl _⟩
theorem c77n (word:List UInt8) (lb:Nat) (bs:List UInt8) (h0 h:AH) (hgl:h.gl=gT) (hB:BdZ h0 h lb bs) (hb:bs.length≤1000000000) (hw:word.length≤1000) :
  ACalls Tryz.prog 77 [.str word,.nils,.gptr lb 0] h (fun v h'=>v=.tup []∧BdZ h0 h' lb (bs ++ rowT word [])∧h'.at_=h.at_∧h.clk≤h'.clk∧h'.gl=h.gl):=by
 have H:=c77 word [] lb bs h0 h hgl hB ⟨by simp,fun x hx=>by simp at hx⟩ hb hw
 refine ⟨H.1,fun c xs hh hv=>H.2 c xs hh (VLes.rel ?_ hv)⟩
 simp only[VLes]
 exact ⟨_,_,rfl,VLe.refl _,_,_,rfl,VLe.nils 1,_,_,rfl,VLe.refl _,rfl⟩
end Go.Proofs.YtaijkalhkgjakaaGreatDoor

namespace Go.Proofs.YtaijkalhkgjakaaGreatDoor
open Go.Av Go.Txt Go.Lib
attribute [local irreducible] thenA blockA awp awpOps awpD awp1
attribute [local go_sem_proc] Nat.reduceAdd Nat.reduceMul Nat.reduceEqDiff Nat.reduceBEq Nat.reduceLeDiff
attribute [local go_sem_proc ↓] reduceIte
attribute [local go_sem] if_yes if_no
set_option maxHeartbeats 8000000
set_option maxRecDepth 20000
end Go.Proofs.YtaijkalhkgjakaaGreatDoor

namespace Go.Proofs.YtaijkalhkgjakaaGreatDoor
open Go.Av
attribute [local irreducible] thenA blockA awp awpOps awpD awp1
attribute [local go_sem_proc] Nat.reduceAdd Nat.reduceMul Nat.reduceEqDiff Nat.reduceBEq Nat.reduceLeDiff
attribute [local go_sem_proc ↓] reduceIte
attribute [local go_sem] if_yes if_no
set_option maxHeartbeats 8000000
set_option maxRecDepth 20000
def aC (n:Nat) (d:Nat→Int):List AV:=(List.range n).map fun i=>.int .i64 (d i)
@[go_sem] theorem aC_len (n:Nat) (d:Nat→Int):(aC n d).length=n:=by simp [aC]
@[go_sem] theorem aC_all (n:Nat) (d:Nat→Int):(aC n d).all AV.cell=true:=by simp [aC,AV.cell]
@[go_sem] theorem aC_get {n:Nat} {d:Nat→Int} {i:Nat} (h:i < n):(aC n d)[i]?=some (.int .i64 (d i)):=by simp [aC,h]
theorem set_td {α:Type} {l:List α} {i:Nat} (h:i < l.length) (v:α):l.take i ++ [v] ++ l.drop (i+1)=l.set i v:=by
 rw [List.set_eq_take_append_cons_drop,if_pos h];simp
@[go_sem] theorem aC_put {n:Nat} {d:Nat→Int} {i:Nat} (h:i < n) (v:Int):(aC n d).take i ++ [.int .i64 v] ++ (aC n d).drop (i+1)=aC n (upd d i v):=by
 rw [set_td (by rw [aC_len];exact h)]
 apply List.ext_getElem?
 intro k
 rw [List.getElem?_set]
 by_cases hk:k < n
 ·rw [aC_get hk,aC_len,aC_get hk,upd_apply]
  by_cases e:i=k
  ·subst e;simp [h]
  ·rw [if_neg e,if_neg (fun e2=>e e2.symm)]
 ·rw [List.getElem?_eq_none (by rw [aC_len];omega),if_neg (by omega),List.getElem?_eq_none (by rw [aC_len];omega)]
def dC (d:Nat→Int) (p:Int) (h f:Nat→Int) (l:Int):List AV:=aC 7 d ++ ([.int .i64 p] ++ (aC 4 h ++ (aC 7 f ++ [.int .i64 l])))
section
variable (d h f:Nat→Int) (p l:Int)
@[go_sem] theorem dC_len:(dC d p h f l).length=20:=by simp [dC,aC_len]
@[go_sem] theorem dC_all:(dC d p h f l).all AV.cell=true:=by simp [dC,List.all_append,aC_all,AV.cell]
@[go_sem] theorem dC_take:(dC d p h f l).take 20=dC d p h f l:=List.take_of_length_le (by rw [dC_len];omega)
@[go_sem] theorem dC_day {i:Nat} (hi:i < 7):(dC d p h f l)[i]?=some (.int .i64 (d i)):=by
 unfold dC;rw [List.getElem?_append_left (by rw [aC_len];exact hi),aC_get hi]
@[go_sem] theorem dC_pl:(dC d p h f l)[7]?=some (.int .i64 p):=by
 unfold dC;rw [List.getElem?_append_right (by rw [aC_len];omega),aC_len];rfl
@[go_sem] theorem dC_hand {w:Nat} (hw:w < 4):(dC d p h f l)[8+w]?=some (.int .i64 (h w)):=by
 unfold dC
 rw [List.getElem?_append_right (by rw [aC_len];omega),aC_len,List.getElem?_append_right (by simp;omega),List.getElem?_append_left (by rw [aC_len];simp;omega),aC_get (by simp;omega)]
 congr 3;simp;omega
@[go_sem] theorem dC_fl {g:Nat} (hg:g < 7):(dC d p h f l)[12+g]?=some (.int .i64 (f g)):=by
 unfold dC
 rw [List.getElem?_append_right (by rw [aC_len];omega),aC_len,List.getElem?_append_right (by simp;omega),List.getElem?_append_right (by rw [aC_len];simp;omega),aC_len,List.getElem?_append_left (by rw [aC_len];simp;omega),aC_get (by simp;omega)]
 congr 3;simp;omega
@[go_sem] theorem dC_last:(dC d p h f l)[19]?=some (.int .i64 l):=by
 unfold dC
 rw [List.getElem?_append_right (by rw [aC_len];omega),aC_len,List.getElem?_append_right (by simp),List.getElem?_append_right (by rw [aC_len];simp),aC_len,List.getElem?_append_right (by rw [aC_len];simp),aC_len];rfl
theorem dC_ext {cs:List AV} (hl:cs.length=20) (h1:∀ i,i < 7→cs[i]?=some (.int .i64 (d i))) (h2:cs[7]?=some (.int .i64 p)) (h3:∀ w,w < 4→cs[8+w]?=some (.int .i64 (h w))) (h4:∀ g,g < 7→cs[12+g]?=some (.int .i64 (f g))) (h5:cs[19]?=some (.int .i64 l)):cs=dC d p h f l:=by
 apply List.ext_getElem?
 intro k
 by_cases k7:k < 7
 ·rw [h1 k k7,dC_day _ _ _ _ _ k7]
 by_cases e7:k=7
 ·rw [e7,h2,dC_pl]
 by_cases k12:k < 12
 ·have:=h3 (k - 8) (by omega)
  have g:=dC_hand d h f p l (w:=k - 8) (by omega)
  rw [show 8+(k - 8)=k by omega] at this g
  rw [this,g]
 by_cases k19:k < 19
 ·have:=h4 (k - 12) (by omega)
  have g:=dC_fl d h f p l (g:=k - 12) (by omega)
  rw [show 12+(k - 12)=k by omega] at this g
  rw [this,g]
 by_cases e19:k=19
 ·rw [e19,h5,dC_last]
 ·rw [List.getElem?_eq_none (by omega),List.getElem?_eq_none (by rw [dC_len];omega)]
@[go_sem] theorem dC_putDay {i:Nat} (hi:i < 7) (v:Int):(dC d p h f l).take i ++ [.int .i64 v] ++ (dC d p h f l).drop (i+1)=dC (upd d i v) p h f l:=by
 rw [set_td (by rw [dC_len];omega)]
 refine dC_ext _ _ _ _ _ (by rw [List.length_set,dC_len]) (fun k hk=>?_) ?_ (fun w hw=>?_) (fun g hg=>?_) ?_
 ·rw [List.getElem?_set,dC_len,upd_apply]
  by_cases e:i=k
  ·subst e;simp;omega
  ·rw [if_neg e,if_neg (fun e2=>e e2.symm),dC_day _ _ _ _ _ hk]
 ·rw [List.getElem?_set,if_neg (by omega),dC_pl]
 ·rw [List.getElem?_set,if_neg (by omega),dC_hand _ _ _ _ _ hw]
 ·rw [List.getElem?_set,if_neg (by omega),dC_fl _ _ _ _ _ hg]
 ·rw [List.getElem?_set,if_neg (by omega),dC_last]
@[go_sem] theorem dC_putPl (v:Int):(dC d p h f l).take 7 ++ [.int .i64 v] ++ (dC d p h f l).drop 8=dC d v h f l:=by
 rw [set_td (i:=7) (by rw [dC_len];omega)]
 refine dC_ext _ _ _ _ _ (by rw [List.length_set,dC_len]) (fun k hk=>?_) ?_ (fun w hw=>?_) (fun g hg=>?_) ?_
 ·rw [List.getElem?_set,if_neg (by omega),dC_day _ _ _ _ _ hk]
 ·rw [List.getElem?_set,dC_len];simp
 ·rw [List.getElem?_set,if_neg (by omega),dC_hand _ _ _ _ _ hw]
 ·rw [List.getElem?_set,if_neg (by omega),dC_fl _ _ _ _ _ hg]
 ·rw [List.getElem?_set,if_neg (by omega),dC_last]
@[go_sem] theorem dC_putHand {w:Nat} (hw:w < 4) (v:Int):(dC d p h f l).take (8+w) ++ [.int .i64 v] ++ (dC d p h f l).drop (8+w+1)=dC d p (upd h w v) f l:=by
 rw [set_td (by rw [dC_len];omega)]
 refine dC_ext _ _ _ _ _ (by rw [List.length_set,dC_len]) (fun k hk=>?_) ?_ (fun k hk=>?_) (fun g hg=>?_) ?_
 ·rw [List.getElem?_set,if_neg (by omega),dC_day _ _ _ _ _ hk]
 ·rw [List.getElem?_set,if_neg (by omega),dC_pl]
 ·rw [List.getElem?_set,dC_len,upd_apply]
  by_cases e:w=k
  ·subst e;simp;omega
  ·rw [if_neg (by omega),if_neg (fun e2=>e e2.symm),dC_hand _ _ _ _ _ hk]
 ·rw [List.getElem?_set,if_neg (by omega),dC_fl _ _ _ _ _ hg]
 ·rw [List.getElem?_set,if_neg (by omega),dC_last]
@[go_sem] theorem dC_putFl {g:Nat} (hg:g < 7) (v:Int):(dC d p h f l).take (12+g) ++ [.int .i64 v] ++ (dC d p h f l).drop (12+g+1)=dC d p h (upd f g v) l:=by
 rw [set_td (by rw [dC_len];omega)]
 refine dC_ext _ _ _ _ _ (by rw [List.length_set,dC_len]) (fun k hk=>?_) ?_ (fun w hw=>?_) (fun k hk=>?_) ?_
 ·rw [List.getElem?_set,if_neg (by omega),dC_day _ _ _ _ _ hk]
 ·rw [List.getElem?_set,if_neg (by omega),dC_pl]
 ·rw [List.getElem?_set,if_neg (by omega),dC_hand _ _ _ _ _ hw]
 ·rw [List.getElem?_set,dC_len,upd_apply]
  by_cases e:g=k
  ·subst e;simp;omega
  ·rw [if_neg (by omega),if_neg (fun e2=>e e2.symm),dC_fl _ _ _ _ _ hk]
 ·rw [List.getElem?_set,if_neg (by omega),dC_last]
@[go_sem] theorem dC_putLast (v:Int):(dC d p h f l).take 19 ++ [.int .i64 v] ++ (dC d p h f l).drop 20=dC d p h f v:=by
 rw [set_td (i:=19) (by rw [dC_len];omega)]
 refine dC_ext _ _ _ _ _ (by rw [List.length_set,dC_len]) (fun k hk=>?_) ?_ (fun w hw=>?_) (fun g hg=>?_) ?_
 ·rw [List.getElem?_set,if_neg (by omega),dC_day _ _ _ _ _ hk]
 ·rw [List.getElem?_set,if_neg (by omega),dC_pl]
 ·rw [List.getElem?_set,if_neg (by omega),dC_hand _ _ _ _ _ hw]
 ·rw [List.getElem?_set,if_neg (by omega),dC_fl _ _ _ _ _ hg]
 ·rw [List.getElem?_set,dC_len];simp
end
def ixF (l:List Int):Nat→Int:=fun i=>l.getD i 0
def Dr.av (x:Dr):AV:=.agg (dC (ixF x.day) (x.pl:Nat) (ixF x.hands) (ixF x.fls) x.last)
theorem ixF_set {l:List Int} {i:Nat} (h:i < l.length) (v:Int):ixF (l.set i v)=upd (ixF l) i v:=by
 funext k;simp only[ixF,upd_apply];exact getD_set _ _ _ _ _ h
theorem hasI {p j:Nat} (hp:p < 128) (hj:j < 7):decide (bitop .and .i64 (shr .i64 (p:Nat) (j:Nat)) 1=1)=p.testBit j:=by
 have:∀ p:Fin 128,∀ j:Fin 7,decide (bitop .and .i64 (shr .i64 (p.val:Nat) (j.val:Nat)) 1=1)=p.val.testBit j.val:=by decide +kernel
 exact this ⟨p,hp⟩ ⟨j,hj⟩
theorem putI {p j:Nat} (hp:p < 128) (hj:j < 7):bitop .or .i64 (p:Nat) (shl .i64 1 (j:Nat))=((p ||| 2 ^ j:Nat):Int):=by
 have:∀ p:Fin 128,∀ j:Fin 7,bitop .or .i64 (p.val:Nat) (shl .i64 1 (j.val:Nat))=((p.val ||| 2 ^ j.val:Nat):Int):=by decide +kernel
 exact this ⟨p,hp⟩ ⟨j,hj⟩
end Go.Proofs.YtaijkalhkgjakaaGreatDoor

namespace Go.Proofs.YtaijkalhkgjakaaGreatDoor
open Go.Av
attribute [local irreducible] thenA blockA awp awpOps awpD awp1
attribute [local go_sem_proc] Nat.reduceAdd Nat.reduceMul Nat.reduceEqDiff Nat.reduceBEq Nat.reduceLeDiff
attribute [local go_sem_proc ↓] reduceIte
attribute [local go_sem] if_yes if_no
set_option maxHeartbeats 8000000
set_option maxRecDepth 20000
theorem c100 (S:Sp) (i:Nat) (hi:i < S.js.length) (h7:S.js.length≤7):Pure Tryz.prog 100 [S.av,.int .i64 i] (fun v=>v=.int .i64 (befJ S.js (jOf S.js i).f i)):=by
 intro h
 refine ACalls.forget (ACalls.of tab mixed Tryz.call100 Tryz.func100 rfl (fi:=⟨26,[],[2],none,[(4,[0,1,0,7,15,31,0,64,0,448,960,1984,4095],[(0,false),(1,true),(2,false),(3,false),(4,false),(5,true),(6,false),(7,true),(8,false),(9,false),(10,false),(11,true),(12,false)])]⟩) rfl rfl (Nat.le_of_ble_eq_true rfl) (by decide) ?_)
 unfold startA
 try simp only[go_sem]
 repeat' (first|refine st_seq_reg rfl (by first|(simp only[go_sem];rfl)|rfl) (by first|(simp only[go_sem];rfl)|rfl) ?_|refine st_op ?_|refine st_det rfl (by simp (disch:=omega) only[go_sem,wr_i64];rfl) ?_|refine st_nil ?_|refine st_seq ?_|refine st_block ?_)
 refine st_loopC (α:=Nat) tab mixed [] [] (by repeat (first|exact trivial|refine ⟨rfl,?_⟩)) [] [] (by repeat (first|exact trivial|refine ⟨rfl,?_⟩)) (fun k=>[(5,.int .i64 ((k:Int) - 1))]) [(1,_),(2,_),(4,_)] (fun _=>[]) [] (fun k=>k≤i∧befJ S.js (jOf S.js i).f k=befJ S.js (jOf S.js i).f i) (fun k=>k) (by decide) i ⟨Nat.le_refl _,rfl⟩ (by (try simp only[go_sem]);repeat' (first|exact trivial|refine And.intro ?_ ?_|rfl|(simp (disch:=omega) only[go_sem,if_yes,if_no,if_no];rfl)|(simp (disch:=omega) only[go_sem,if_yes,if_no,if_no]))) (by (try simp only[go_sem]);repeat' (first|exact trivial|refine And.intro ?_ ?_|rfl|(simp (disch:=omega) only[go_sem,if_yes,if_no,if_no];rfl)|(simp (disch:=omega) only[go_sem,if_yes,if_no,if_no]))) (by first|(simp only[go_sem];rfl)|rfl) (by intro n;simp only[go_sem];rfl) ?_
 rintro k c ⟨hk,hall⟩ hc
 try simp only[go_sem]
 have hk1:0 < k→((k:Int) - 1).toNat=k - 1:=fun h=>by omega
 have hcs:0 < k→befJ S.js (jOf S.js i).f k=if (jOf S.js (k - 1)).f=(jOf S.js i).f then ((k - 1:Nat):Int) else befJ S.js (jOf S.js i).f (k - 1):=fun h=>by
  have:k=(k - 1)+1:=by omega
  rw [this];rfl
 repeat' (first|refine st_seq_reg rfl (by first|(simp only[go_sem,hk1];rfl)|rfl) (by first|(simp only[go_sem,hk1];rfl)|rfl) ?_|refine st_reg rfl (by first|(simp only[go_sem,hk1];rfl)|rfl) (by first|(simp only[go_sem,hk1];rfl)|rfl) ?_|refine st_seq_draw rfl (by first|(simp only[go_sem,hk1];rfl)|rfl) (by first|(simp only[go_sem,hk1];rfl)|rfl) ?_|refine st_op ?_|refine st_det rfl (by simp (disch:=omega) only[go_sem,wr_i64,hk1];rfl) ?_|refine st_dop rfl ?_|(refine st_condS rfl ?_ ?_ <;> intro hg <;> (try simp only[dcT,dcF,bnT,bnF] at hg))|refine st_nil ?_|refine st_dnil ?_|refine st_tN ?_|refine st_seq ?_|refine st_block ?_|refine st_skip ?_|refine st_exit ?_|refine st_ret ?_|refine st_tE ?_|refine st_tR ?_|refine st_bN ?_|refine st_bR ?_|refine st_bH ?_)
 ·simp (disch:=omega) only[AEnd,Tryz.results100,aresK,fin,go_sem,implies_true,true_and,and_true,List.reverse_cons,List.reverse_nil]
  rw [← hall,hcs (by omega),if_pos (by assumption)]
  congr 1;omega
 ·refine ⟨k - 1,⟨by omega,by rw [← hall,hcs (by omega),if_neg (by assumption)]⟩,by omega,(by (try (rw [show ((k - 1:Nat):Int) - 1=(k:Int) - 1 - 1 by omega]));repeat' (first|exact trivial|refine And.intro ?_ ?_|rfl|(simp (disch:=omega) only[go_sem,if_yes,if_no,if_no];rfl)|(simp (disch:=omega) only[go_sem,if_yes,if_no,if_no]))),(by (try (rw [show ((k - 1:Nat):Int) - 1=(k:Int) - 1 - 1 by omega]));repeat' (first|exact trivial|refine And.intro ?_ ?_|rfl|(simp (disch:=omega) only[go_sem,if_yes,if_no,if_no];rfl)|(simp (disch:=omega) only[go_sem,if_yes,if_no,if_no]))),rfl,(by first|exact HOld.of _ (by omega)|exact HOld.put _ _ _ (by omega))⟩
 ·simp (disch:=omega) only[AEnd,Tryz.results100,aresK,fin,go_sem,implies_true,true_and,and_true,List.reverse_cons,List.reverse_nil]
  have e:k=0:=by omega
  rw [← hall,e];rfl
theorem c132 (x:Dr) (j:Nat) (hp:x.pl < 128) (hj:j < 7):Pure Tryz.prog 132 [x.av,.int .i64 j] (fun v=>v=.bool (x.pl.testBit j)):=by
 intro h
 unfold Dr.av
 refine ACalls.forget (ACalls.of tab mixed Tryz.call132 Tryz.func132 rfl (fi:=⟨11,[],[2],none,[]⟩) rfl rfl (Nat.le_of_ble_eq_true rfl) (by decide) ?_)
 unfold startA
 try simp only[go_sem]
 repeat' (first|refine st_seq_reg rfl (by first|(simp only[go_sem];rfl)|rfl) (by first|(simp only[go_sem];rfl)|rfl) ?_|refine st_op ?_|refine st_det rfl (by simp (disch:=omega) only[go_sem,wr_i64];rfl) ?_|refine st_nil ?_|refine st_ret ?_)
 simp (disch:=omega) only[AEnd,Tryz.results132,aresK,fin,go_sem,implies_true,true_and,and_true,List.reverse_cons,List.reverse_nil]
 rw [hasI hp hj]
theorem c135 (S:Sp) (x:Dr) (j:Nat) (hp:x.pl < 128) (hj:j < S.js.length) (h7:S.js.length≤7):Pure Tryz.prog 135 [x.av,S.av,.int .i64 j] (fun v=>v=.bool (readyD S.js x j)):=by
 intro h
 have hb:=befJ_cases S.js (jOf S.js j).f j
 have hbn:0≤befJ S.js (jOf S.js j).f j→befJ S.js (jOf S.js j).f j=((befJ S.js (jOf S.js j).f j).toNat:Int):=fun h=>by omega
 have hb7:(befJ S.js (jOf S.js j).f j).toNat < 7:=by rcases hb with ⟨e,_⟩|⟨k,e,hk,_⟩ <;> omega
 unfold Dr.av
 refine ACalls.forget (ACalls.of tab mixed Tryz.call135 Tryz.func135 rfl (fi:=⟨24,[],[3,4],none,[]⟩) rfl rfl (Nat.le_of_ble_eq_true rfl) (by decide) ?_)
 unfold startA
 try simp only[go_sem]
 repeat' (first|refine st_seq_reg rfl (by first|(simp only[go_sem];rfl)|rfl) (by first|(simp only[go_sem];rfl)|rfl) ?_|refine st_op ?_|refine st_det rfl (by simp (disch:=omega) only[go_sem,wr_i64];rfl) ?_|(refine st_pureE (by first|(simp (disch:=omega) only[go_sem];rfl)|rfl) rfl (c100 S j hj h7) (by first|(simp only[go_sem];rfl)|rfl) (by intro n;first|(simp (disch:=omega) only[go_sem];rfl)|rfl) ?_;intro n hn)|(refine st_pureE (by first|(simp (disch:=omega) only[go_sem];rfl)|rfl) rfl (c132 x j hp (by omega)) (by first|(simp only[go_sem];rfl)|rfl) (by intro n;first|(simp (disch:=omega) only[go_sem];rfl)|rfl) ?_;intro n hn)|(refine st_pureE (by first|(simp (disch:=omega) only[go_sem];rfl)|rfl) rfl (by rw [hbn (by omega)];exact c132 x _ hp hb7) (by first|(simp only[go_sem];rfl)|rfl) (by intro n;first|(simp (disch:=omega) only[go_sem];rfl)|rfl) ?_;intro n hn)|refine st_gT rfl rfl rfl ?_|refine st_gF rfl rfl rfl ?_|(refine st_gS rfl rfl ?_ ?_ <;> intro hg <;> (try simp only[dcT,dcF,bnT,bnF] at hg))|refine st_nil ?_|refine st_ret ?_)
 all_goals
  simp (disch:=omega) only[AEnd,Tryz.results135,aresK,fin,go_sem,implies_true,true_and,and_true,List.reverse_cons,List.reverse_nil]
  try simp [readyD, *]
end Go.Proofs.YtaijkalhkgjakaaGreatDoor

namespace Go.Proofs.YtaijkalhkgjakaaGreatDoor
open Go.Av
attribute [local irreducible] thenA blockA awp awpOps awpD awp1
attribute [local go_sem_proc] Nat.reduceAdd Nat.reduceMul Nat.reduceEqDiff Nat.reduceBEq Nat.reduceLeDiff
attribute [local go_sem_proc ↓] reduceIte
attribute [local go_sem] if_yes if_no
set_option maxHeartbeats 8000000
set_option maxRecDepth 20000
theorem Dr.av_with {S:Sp} {x:Dr} (z:x.Sz S) {j w:Nat} (hw:w < 4) (hj:j < 7) (hf:(jOf S.js j).f.toNat < 7) :
  (withD S.js x j w).av=.agg (dC (upd (ixF x.day) j (withD S.js x j w).last) ((x.pl ||| 2 ^ j:Nat):Int) (upd (ixF x.hands) w ((withD S.js x j w).last+(jOf S.js j).d)) (upd (ixF x.fls) (jOf S.js j).f.toNat ((withD S.js x j w).last+(jOf S.js j).d)) (withD S.js x j w).last):=by
 unfold Dr.av
 rw [← ixF_set (by rw [z.day];exact hj),← ixF_set (by rw [z.hands];exact hw),← ixF_set (by rw [z.fls];exact hf)]
 rfl
theorem c136 (S:Sp) (x:Dr) (j w:Nat) (hS:S.Ok) (z:x.Sz S) (hj:j < S.js.length) (hw:w < S.ws.length) (hl:∀ i,0≤x.hands.getD i 0∧x.hands.getD i 0≤1000) (hf:∀ i,0≤x.fls.getD i 0∧x.fls.getD i 0≤1000) :
  Pure Tryz.prog 136 [x.av,S.av,.int .i64 j,.int .i64 w] (fun v=>v=(withD S.js x j w).av):=by
 have h7:=hS.n7
 have h4:=hS.m4
 have hjk:(jOf S.js j).Ok:=hS.j hj
 unfold Jb.Ok at hjk
 have hp:x.pl < 128:=Nat.lt_of_lt_of_le z.pl (Nat.pow_le_pow_right (by omega:0 < 2) h7)
 have hw4:w < 4:=by omega
 have hf7:(jOf S.js j).f.toNat < 7:=by omega
 have hb1:0≤ixF x.hands w∧ixF x.hands w≤1000:=hl w
 have hb2:0≤ixF x.fls (jOf S.js j).f.toNat∧ixF x.fls (jOf S.js j).f.toNat≤1000:=hf _
 rw [Dr.av_with z hw4 (by omega) hf7]
 have hlast:(withD S.js x j w).last=max (ixF x.hands w) (ixF x.fls (jOf S.js j).f.toNat):=rfl
 rw [hlast]
 have hput:=putI hp (show j < 7 by omega)
 intro h
 unfold Dr.av
 refine ACalls.forget (ACalls.of tab mixed Tryz.call136 Tryz.func136 rfl (fi:=⟨55,[8,9],[5],none,[(2,[0,0,3,7,0,16,0,112,240,511,1023,2047],[(0,false),(1,false),(2,false),(3,false),(4,false),(5,true),(6,false),(7,false),(8,false),(9,false),(10,false),(11,false)]),(4,[0,0,2,0,8,0,32,120,0,256,0,1024,3840,0,9209,25593,0,131071,262143],[(0,false),(1,false),(2,true),(3,false),(4,false),(5,false),(6,true),(7,false),(8,false),(9,false),(10,false),(11,true),(12,false),(13,false),(14,false),(16,false),(15,true),(17,false),(18,true)]),(5,[0,1,0,4,15,31,63],[(0,false),(1,false),(2,false),(3,false),(4,false),(5,false),(6,false)])]⟩) rfl rfl (Nat.le_of_ble_eq_true rfl) (by decide) ?_)
 unfold startA
 try simp only[go_sem]
 repeat' (first|refine st_seq_reg rfl (by first|(simp only[go_sem,hput,Nat.mul_one,Nat.zero_add,List.append_nil];rfl)|rfl) (by first|(simp only[go_sem,hput,Nat.mul_one,Nat.zero_add,List.append_nil];rfl)|rfl) ?_|refine st_seq_draw rfl (by first|(simp only[go_sem,hput,Nat.mul_one,Nat.zero_add,List.append_nil];rfl)|rfl) (by first|(simp only[go_sem,hput,Nat.mul_one,Nat.zero_add,List.append_nil];rfl)|rfl) ?_|refine st_op ?_|refine st_det rfl (by simp (disch:=omega) only[go_sem,wr_i64,hput,Nat.mul_one,Nat.zero_add,List.append_nil];rfl) ?_|refine st_dop rfl ?_|refine st_loc rfl (by simp (disch:=omega) only[go_sem,wr_i64,hput,Nat.mul_one,Nat.zero_add,List.append_nil];rfl) ?_|refine st_heap rfl (by simp (disch:=omega) only[go_sem,wr_i64,hput,Nat.mul_one,Nat.zero_add,List.append_nil];rfl) ?_|refine st_store (by simp (disch:=omega) only[go_sem,wr_i64,hput,Nat.mul_one,Nat.zero_add,List.append_nil];rfl) ?_|refine st_nil ?_|refine st_dnil ?_|refine st_ret ?_)
 simp (disch:=omega) only[AEnd,Tryz.results136,aresK,fin,go_sem,implies_true,true_and,and_true,List.reverse_cons,List.reverse_nil]
 exact fun b hb=>if_neg (fun e=>by rw [e] at hb;exact absurd hb (Nat.lt_irrefl _))
end Go.Proofs.YtaijkalhkgjakaaGreatDoor

namespace Go.Proofs.YtaijkalhkgjakaaGreatDoor
open Go.Av
attribute [local irreducible] thenA blockA awp awpOps awpD awp1
attribute [local go_sem_proc] Nat.reduceAdd Nat.reduceMul Nat.reduceEqDiff Nat.reduceBEq Nat.reduceLeDiff
attribute [local go_sem_proc ↓] reduceIte
attribute [local go_sem] if_yes if_no
set_option maxHeartbeats 8000000
set_option maxRecDepth 20000
theorem c109 (a:Int):Pure Tryz.prog 109 [.int .i64 a] (fun v=>v=.bool false):=by
 intro h
 refine ACalls.forget (ACalls.of tab mixed Tryz.call109 Tryz.func109 rfl (fi:=⟨6,[],[],none,[]⟩) rfl rfl (Nat.le_of_ble_eq_true rfl) (by decide) ?_)
 unfold startA
 repeat' (first|refine st_seq_reg rfl (by first|(simp only[go_sem];rfl)|rfl) (by first|(simp only[go_sem];rfl)|rfl) ?_|refine st_op ?_|refine st_det rfl (by simp (disch:=omega) only[go_sem,wr_i64];rfl) ?_|refine st_nil ?_|refine st_ret ?_)
 simp (disch:=omega) only[AEnd,Tryz.results109,aresK,fin,go_sem,implies_true,true_and,and_true,List.reverse_cons,List.reverse_nil]
 simp
def cmpI (a b:Int):Int:=if a < b then -1 else if a > b then 1 else 0
theorem cmpI_0 {a b:Int} (h:cmpI a b=0):¬ a < b∧¬ a > b:=by
 unfold cmpI at h
 split at h
 ·omega
 ·split at h
  ·omega
  ·exact ⟨by assumption,by assumption⟩
theorem c76 (a b:Int):Pure Tryz.prog 76 [.int .i64 a,.int .i64 b] (fun v=>v=.int .i64 (cmpI a b)):=by
 intro h
 refine ACalls.forget (ACalls.of tab mixed Tryz.call76 Tryz.func76 rfl (fi:=⟨20,[],[],none,[]⟩) rfl rfl (Nat.le_of_ble_eq_true rfl) (by decide) ?_)
 unfold startA
 repeat' (first|refine st_seq_reg rfl (by first|(simp only[go_sem];rfl)|rfl) (by first|(simp only[go_sem];rfl)|rfl) ?_|refine st_op ?_|refine st_det rfl (by simp (disch:=omega) only[go_sem,wr_i64];rfl) ?_|(refine st_pureE (by first|(simp (disch:=omega) only[go_sem];rfl)|rfl) rfl (c109 _) (by first|(simp only[go_sem];rfl)|rfl) (by intro n;first|(simp (disch:=omega) only[go_sem];rfl)|rfl) ?_;intro n hn)|refine st_condF rfl ?_|(refine st_condS rfl ?_ ?_ <;> intro hg <;> (try simp only[dcT,dcF,bnT,bnF] at hg))|refine st_nil ?_|refine st_tN ?_|refine st_seq ?_|refine st_skip ?_|refine st_ret ?_|refine st_tR ?_)
 ·simp (disch:=omega) only[AEnd,Tryz.results76,aresK,fin,go_sem,implies_true,true_and,and_true,List.reverse_cons,List.reverse_nil]
  unfold cmpI;rw [if_pos (by omega)]
 ·simp (disch:=omega) only[AEnd,Tryz.results76,aresK,fin,go_sem,implies_true,true_and,and_true,List.reverse_cons,List.reverse_nil]
  unfold cmpI;rw [if_neg (by omega),if_pos (by omega)]
 ·simp (disch:=omega) only[AEnd,Tryz.results76,aresK,fin,go_sem,implies_true,true_and,and_true,List.reverse_cons,List.reverse_nil]
  unfold cmpI;rw [if_neg (by omega),if_neg (by omega)]
def cmpL:List Int→List Int→Int
 | [],[]=>0
 | [],_ :: _=>-1
 | _ :: _,[]=>1
 | a :: l,b :: k=>if a < b then -1 else if a > b then 1 else cmpL l k
theorem cmpL_lex:∀ (a b:List Int),0≤cmpL a b ↔ lexLt a b=false
 | [],[]=>by simp [cmpL,lexLt]
 | [],_ :: _=>by simp [cmpL,lexLt]
 | _ :: _,[]=>by simp [cmpL,lexLt]
 | a :: l,b :: k=>by
  have e1:cmpL (a :: l) (b :: k)=if a < b then -1 else if a > b then 1 else cmpL l k:=rfl
  have e2:lexLt (a :: l) (b :: k)=if a=b then lexLt l k else decide (a < b):=rfl
  rw [e1,e2]
  by_cases h1:a < b
  ·rw [if_pos h1,if_neg (by omega)];simp [h1]
  ·rw [if_neg h1]
   by_cases h2:a > b
   ·rw [if_pos h2,if_neg (by omega)];simp;omega
   ·have e:a=b:=by omega
    subst e
    rw [if_neg h2,if_pos rfl]
    exact cmpL_lex l k
theorem cmpL_drop {a b:List Int} {i:Nat} (ha:i < a.length) (hb:i < b.length):cmpL (a.drop i) (b.drop i)=if a.getD i 0 < b.getD i 0 then -1 else if a.getD i 0 > b.getD i 0 then 1 else cmpL (a.drop (i+1)) (b.drop (i+1)):=by
 rw [drop_getD 0 ha,drop_getD 0 hb];rfl
def mxN (es:List Int):Nat→Int
 | 0=>es.getD 0 0
 | i+1=>max (mxN es i) (es.getD (i+1) 0)
theorem mxN_take {es:List Int}:∀ i,i < es.length→mxN es i=maxL (es.take (i+1)):=by
 intro i
 induction i with
 | zero=>intro h;cases es with
  | nil=>simp at h
  | cons a l=>simp [mxN,maxL]
 | succ i ih =>
  intro h
  rw [mxN,ih (by omega)]
  cases es with
  | nil=>simp at h
  | cons a l =>
   have hi:i < l.length:=by simpa using h
   simp only[List.take_succ_cons,maxL]
   rw [List.take_succ_eq_append_getElem hi,List.foldl_append]
   simp [List.getD_eq_getElem?_getD,hi]
theorem c133 (es:List Int) (h0:es ≠ []) (hl:(es.length:Int) < 1000000):Pure Tryz.prog 133 [.lst 1 (es.map iv)] (fun v=>v=.int .i64 (maxL es)):=by
 have h1:0 < es.length:=List.length_pos_iff.2 h0
 intro h
 refine ACalls.forget (ACalls.of tab mixed Tryz.call133 Tryz.func133 rfl (fi:=⟨25,[],[],none,[]⟩) rfl rfl (Nat.le_of_ble_eq_true rfl) (by decide) ?_)
 unfold startA
 repeat' (first|refine st_seq_reg rfl (by first|(simp only[go_sem];rfl)|rfl) (by first|(simp only[go_sem];rfl)|rfl) ?_|refine st_reg rfl (by first|(simp only[go_sem];rfl)|rfl) (by first|(simp only[go_sem];rfl)|rfl) ?_|refine st_op ?_|refine st_det rfl (by simp (disch:=omega) only[go_sem,wr_i64];rfl) ?_|(refine st_condS rfl ?_ ?_ <;> intro hg <;> (try simp only[dcT,dcF,bnT,bnF] at hg))|refine st_nil ?_|refine st_tN ?_|refine st_seq ?_|refine st_block ?_|refine st_skip ?_)
 all_goals try (exfalso;omega)
 refine st_loopC (α:=Nat) tab mixed [] [] (by repeat (first|exact trivial|refine ⟨rfl,?_⟩)) [] [] (by repeat (first|exact trivial|refine ⟨rfl,?_⟩)) (fun i=>[(4,.int .i64 i),(3,.int .i64 (mxN es (i - 1)))]) [(0,_),(2,_)] (fun _=>[]) [] (fun i=>1≤i∧i≤es.length) (fun i=>es.length - i) (by decide) 1 ⟨Nat.le_refl _,by omega⟩ (by (try simp only[go_sem]);repeat' (first|exact trivial|refine And.intro ?_ ?_|rfl|(simp (disch:=omega) only[go_sem,if_yes,if_no,if_no];rfl)|(simp (disch:=omega) only[go_sem,if_yes,if_no,if_no]))) (by (try simp only[go_sem]);repeat' (first|exact trivial|refine And.intro ?_ ?_|rfl|(simp (disch:=omega) only[go_sem,if_yes,if_no,if_no];rfl)|(simp (disch:=omega) only[go_sem,if_yes,if_no,if_no]))) (by first|(simp only[go_sem];rfl)|rfl) (by intro n;simp only[go_sem];rfl) ?_
 rintro i c ⟨hi1,hi'⟩ hc
 simp only[go_sem]
 repeat' (first|refine st_seq_reg rfl (by first|(simp only[go_sem];rfl)|rfl) (by first|(simp only[go_sem];rfl)|rfl) ?_|refine st_reg rfl (by first|(simp only[go_sem];rfl)|rfl) (by first|(simp only[go_sem];rfl)|rfl) ?_|refine st_op ?_|refine st_det rfl (by simp (disch:=omega) only[go_sem,wr_i64];rfl) ?_|(refine st_condS rfl ?_ ?_ <;> intro hg <;> (try simp only[dcT,dcF,bnT,bnF] at hg))|refine st_nil ?_|refine st_tN ?_|refine st_seq ?_|refine st_block ?_|refine st_skip ?_|refine st_exit ?_|refine st_ret ?_|refine st_tE ?_|refine st_bN ?_|refine st_bH ?_)
 ·have e:mxN es i=max (mxN es (i - 1)) (es.getD i 0):=by
   obtain ⟨j,rfl⟩:∃ j,i=j+1:=⟨i - 1,by omega⟩
   rfl
  refine ⟨i+1,⟨by omega,by omega⟩,by omega,(by (try (rw [Nat.add_sub_cancel,e]));repeat' (first|exact trivial|refine And.intro ?_ ?_|rfl|(simp (disch:=omega) only[go_sem,if_yes,if_no,if_no];rfl)|(simp (disch:=omega) only[go_sem,if_yes,if_no,if_no]))),(by (try (rw [Nat.add_sub_cancel,e]));repeat' (first|exact trivial|refine And.intro ?_ ?_|rfl|(simp (disch:=omega) only[go_sem,if_yes,if_no,if_no];rfl)|(simp (disch:=omega) only[go_sem,if_yes,if_no,if_no]))),rfl,(by first|exact HOld.of _ (by omega)|exact HOld.put _ _ _ (by omega))⟩
 ·have e:i=es.length:=by omega
  rw [mxN_take (i - 1) (by omega),show i - 1+1=es.length by omega,List.take_length]
  simp (disch:=omega) only[AEnd,Tryz.results133,aresK,fin,go_sem,implies_true,true_and,and_true,List.reverse_cons,List.reverse_nil]
end Go.Proofs.YtaijkalhkgjakaaGreatDoor
