/- Contracts of functions that the claim reaches: what each call gives, told in our own logic. Conditions: those of each theorem. -/
import Derived.Test.YtoafigpikgigaaaGreatDoorQ60
import Derived.Test.YtoafigpikgigaaaGreatDoorY13
import Derived.Test.YtoafigpikgigaaaGreatDoorWR
import Derived.Test.YtoafigpikgigaaaGreatDoorCB
import Derived.Test.YtoafigpikgigaaaGreatDoorY3
import Derived.Test.YtoafigpikgigaaaGreatDoorQ63
import Derived.Test.YtoafigpikgigaaaGreatDoorQ31
import Derived.Test.YtoafigpikgigaaaGreatDoorV3
import Derived.Test.YtoafigpikgigaaaGreatDoorRows
import Derived.LaidLaws
import Derived.LaidHandle
import Derived.FnData
import Derived.Lib.LaidTab
import Derived.Shelf.Vars
import Derived.Handed
import Derived.HandedShaped
open List (length_map)
set_option linter.all false
set_option linter.unusedSimpArgs false
set_option linter.unusedVariables false
namespace Go.Proofs.YtoafigpikgigaaaGreatDoor
open Go.Av
attribute [local irreducible] thenA blockA awp awpOps awpD awp1
attribute [local go_sem_proc] Nat.reduceAdd Nat.reduceMul Nat.reduceEqDiff Nat.reduceBEq Nat.reduceLeDiff
attribute [local go_sem_proc ↓] reduceIte
attribute [local go_sem] if_yes if_no
set_option maxHeartbeats 8000000
set_option maxRecDepth 20000
def vastP (t:Tw) (n:Int):Prop:=(∃ i,i < t.gs.length∧20 < (gp t.gs i).path.length) ∨ (20 < t.rooms.length ∨ 20 < t.sts.length ∨ 16 < t.gs.length ∨ (chkE t=0∧(n < (t.sts.length:Int) ∨ 20 < t.steps)))
noncomputable def vastB (t:Tw) (n:Int):Bool:=@decide _ (Classical.propDecidable (vastP t n))
theorem c5v (t:Tw) (n:Int) (hs:t.small):Pure Tryz.prog 5 [t.av,.int .i64 n] (fun v=>∃ r,v=.bool r∧(r=true ↔ vastP t n)):=by
 have h1:=hs.r
 have h2:=hs.s
 have h3:=hs.g
 have h4:∀ i,i < t.gs.length→(gp t.gs i).path.length≤maxLen:=fun i hi=>hs.p _ (gp_mem hi)
 unfold maxLen at h1 h2 h3 h4
 have k52:=c15 t
 have ht0:t.av=.agg t.cells:=rfl
 intro h
 refine ACalls.forget (ACalls.of tab mixed Tryz.call5 Tryz.func5 rfl (fi:=⟨52,[],[2],none,[]⟩) rfl rfl (Nat.le_of_ble_eq_true rfl) (by decide) ?_)
 unfold startA
 rw [ht0]
 unfold Tw.cells
 repeat' (first|refine st_seq_reg rfl (by first|(simp only[go_sem,Lm];rfl)|rfl) (by first|(simp only[go_sem,Lm];rfl)|rfl) ?_|refine st_op ?_|refine st_det rfl (by simp (disch:=omega) only[go_sem,wr_i64,Lm];rfl) ?_|refine st_nil ?_|refine st_seq ?_|refine st_block ?_)
 refine st_loopC (α:=Nat) tab mixed [] [] (by repeat (first|exact trivial|refine ⟨rfl,?_⟩)) [] [] (by repeat (first|exact trivial|refine ⟨rfl,?_⟩)) (fun i=>[(5,.int .i64 (i:Nat))]) [(1,_),(2,_),(4,_)] (fun _=>[]) [] (fun i=>i≤t.gs.length∧∀ j,j < i→(gp t.gs j).path.length≤20) (fun i=>t.gs.length - i) (by decide) 0 ⟨Nat.zero_le _,fun j hj=>absurd hj (Nat.not_lt_zero _)⟩ (by (try simp only[go_sem]);repeat' (first|exact trivial|refine And.intro ?_ ?_|rfl|(simp (disch:=omega) only[go_sem,if_yes,if_no,if_no];rfl)|(simp (disch:=omega) only[go_sem,if_yes,if_no,if_no]))) (by (try simp only[go_sem]);repeat' (first|exact trivial|refine And.intro ?_ ?_|rfl|(simp (disch:=omega) only[go_sem,if_yes,if_no,if_no];rfl)|(simp (disch:=omega) only[go_sem,if_yes,if_no,if_no]))) (by first|(simp only[go_sem];rfl)|rfl) (by intro n;simp only[go_sem];rfl) ?_
 rintro i c ⟨i1,i2⟩ hc
 simp only[go_sem]
 by_cases hi:i < t.gs.length
 case pos =>
  have hp:=h4 i hi
  by_cases hl:(gp t.gs i).path.length≤20
  ·repeat' (first|refine st_seq_reg rfl (by first|(simp only[go_sem,Lm];rfl)|rfl) (by first|(simp only[go_sem,Lm];rfl)|rfl) ?_|refine st_reg rfl (by first|(simp only[go_sem,Lm];rfl)|rfl) (by first|(simp only[go_sem,Lm];rfl)|rfl) ?_|refine st_op ?_|refine st_det rfl (by simp (disch:=omega) only[go_sem,wr_i64,Lm];rfl) ?_|refine st_gT rfl rfl rfl ?_|refine st_gF rfl rfl rfl ?_|(refine st_gS rfl rfl ?_ ?_ <;> intro hg <;> (try simp only[dcT,dcF,bnT,bnF] at hg))|refine st_condT rfl ?_|(refine st_condS rfl ?_ ?_ <;> intro hg <;> (try simp only[dcT,dcF,bnT,bnF] at hg))|refine st_nil ?_|refine st_tN ?_|refine st_seq ?_|refine st_block ?_|refine st_skip ?_|refine st_exit ?_|refine st_ret ?_|refine st_tE ?_|refine st_tR ?_|refine st_bN ?_|refine st_bR ?_|refine st_bH ?_)
   all_goals try (exfalso;omega)
   refine ⟨i+1,⟨by show i+1≤_;omega,fun j hj=>by by_cases e:j=i;(rw [e];exact hl);(exact i2 j (by omega))⟩,by show t.gs.length - (i+1) < t.gs.length - i;omega,(by repeat' (first|exact trivial|refine And.intro ?_ ?_|rfl|(simp (disch:=omega) only[go_sem,if_yes,if_no,if_no];rfl)|(simp (disch:=omega) only[go_sem,if_yes,if_no,if_no]))),(by repeat' (first|exact trivial|refine And.intro ?_ ?_|rfl|(simp (disch:=omega) only[go_sem,if_yes,if_no,if_no];rfl)|(simp (disch:=omega) only[go_sem,if_yes,if_no,if_no]))),rfl,(by first|exact HOld.of _ (by omega)|exact HOld.put _ _ _ (by omega))⟩
  ·repeat' (first|refine st_seq_reg rfl (by first|(simp only[go_sem,Lm];rfl)|rfl) (by first|(simp only[go_sem,Lm];rfl)|rfl) ?_|refine st_reg rfl (by first|(simp only[go_sem,Lm];rfl)|rfl) (by first|(simp only[go_sem,Lm];rfl)|rfl) ?_|refine st_op ?_|refine st_det rfl (by simp (disch:=omega) only[go_sem,wr_i64,Lm];rfl) ?_|refine st_gT rfl rfl rfl ?_|refine st_gF rfl rfl rfl ?_|(refine st_gS rfl rfl ?_ ?_ <;> intro hg <;> (try simp only[dcT,dcF,bnT,bnF] at hg))|refine st_condT rfl ?_|(refine st_condS rfl ?_ ?_ <;> intro hg <;> (try simp only[dcT,dcF,bnT,bnF] at hg))|refine st_nil ?_|refine st_tN ?_|refine st_seq ?_|refine st_block ?_|refine st_skip ?_|refine st_exit ?_|refine st_ret ?_|refine st_tE ?_|refine st_tR ?_|refine st_bN ?_|refine st_bR ?_|refine st_bH ?_)
   all_goals try (exfalso;omega)
   simp (disch:=omega) only[AEnd,Tryz.results5,aresK,fin,go_sem,implies_true,true_and,and_true,List.reverse_cons,List.reverse_nil]
   exact ⟨true,rfl,iff_of_true rfl (.inl ⟨i,hi,by omega⟩)⟩
 obtain rfl:i=t.gs.length:=by omega
 repeat' (first|refine st_seq_reg rfl (by first|(simp only[go_sem,Lm];rfl)|rfl) (by first|(simp only[go_sem,Lm];rfl)|rfl) ?_|refine st_reg rfl (by first|(simp only[go_sem,Lm];rfl)|rfl) (by first|(simp only[go_sem,Lm];rfl)|rfl) ?_|refine st_op ?_|refine st_det rfl (by simp (disch:=omega) only[go_sem,wr_i64,Lm];rfl) ?_|(refine st_pureE (by first|(simp (disch:=omega) only[go_sem,Lm];rfl)|rfl) rfl (k52) (by first|(simp only[go_sem,Lm];rfl)|rfl) (by intro n;first|(simp (disch:=omega) only[go_sem];rfl)|rfl) ?_;intro n hn)|refine st_gT rfl rfl rfl ?_|refine st_gF rfl rfl rfl ?_|(refine st_gS rfl rfl ?_ ?_ <;> intro hg <;> (try simp only[dcT,dcF,bnT,bnF] at hg))|refine st_condT rfl ?_|(refine st_condS rfl ?_ ?_ <;> intro hg <;> (try simp only[dcT,dcF,bnT,bnF] at hg))|refine st_nil ?_|refine st_tN ?_|refine st_seq ?_|refine st_block ?_|refine st_skip ?_|refine st_exit ?_|refine st_ret ?_|refine st_tE ?_|refine st_tR ?_|refine st_bN ?_|refine st_bR ?_|refine st_bH ?_)
 all_goals try (exfalso;omega)
 all_goals
  simp (disch:=omega) only[AEnd,Tryz.results5,aresK,fin,go_sem,implies_true,true_and,and_true,List.reverse_cons,List.reverse_nil]
  first
   | exact ⟨true,rfl,iff_of_true rfl (.inr (by omega))⟩
   | exact ⟨false,rfl,iff_of_false (by simp) (by rintro (⟨j,hj,q⟩|q);exact absurd (i2 j hj) (by omega);omega)⟩
   | exact ⟨_,rfl,by simp only[decide_eq_true_eq];exact ⟨fun q=>.inr (by omega),by rintro (⟨j,hj,q⟩|q);exact absurd (i2 j hj) (by omega);omega⟩⟩
theorem c5b (t:Tw) (n:Int) (hs:t.small):Pure Tryz.prog 5 [t.av,.int .i64 n] (fun v=>v=.bool (vastB t n)):=fun h =>
 (c5v t n hs h).mono fun v h' q=>⟨q.1,by
  obtain ⟨r,e,k⟩:=q.2
  rw [e]
  congr 1
  unfold vastB
  cases r with
  | true=>exact (@decide_eq_true _ (Classical.propDecidable _) (k.1 rfl)).symm
  | false=>exact (@decide_eq_false _ (Classical.propDecidable _) (fun w=>by have:=k.2 w;cases this)).symm⟩
end Go.Proofs.YtoafigpikgigaaaGreatDoor

namespace Go.Proofs.YtoafigpikgigaaaGreatDoor
open Go.Av Go.Txt Go.Lib
attribute [local irreducible] thenA blockA awp awpOps awpD awp1
attribute [local go_sem_proc] Nat.reduceAdd Nat.reduceMul Nat.reduceEqDiff Nat.reduceBEq Nat.reduceLeDiff
attribute [local go_sem_proc ↓] reduceIte
attribute [local go_sem] if_yes if_no
set_option maxHeartbeats 16000000
set_option maxRecDepth 20000
theorem TwOk.lens' {t:Tw} (hT:TwOk t):t.lens:=⟨by have:=hT.rn;omega,by have:=hT.sn;omega,by have:=hT.gn;omega,fun i hi=>by have:=(hT.g i hi).many;omega⟩
def wS (t:Tw):List UInt8:=if chkE t=0 then cardT t else []
theorem wr_form (t:Tw):wrV t=.tup [.str (wS t),.int .i64 (chkE t)]:=by
 unfold wrV wS
 by_cases h:chkE t=0
 ·rw [if_pos h,if_pos h,h]
 ·rw [if_neg h,if_neg h]
theorem wS_len (t:Tw):(wS t).length≤2300:=by
 unfold wS
 by_cases h:chkE t=0
 ·rw [if_pos h];exact card_len (townOk h)
 ·rw [if_neg h];simp
theorem rd_form (s:List UInt8):∃ (t:Tw) (k e:Int),rdV s=.tup [t.av,.int .i64 k,.int .i64 e]∧t.lens:=by
 rcases rd_inv s with ⟨k,e,hr,_⟩|⟨t,hr,hE,_⟩
 ·exact ⟨t0,k,e,hr,⟨by simp [t0],by simp [t0],by simp [t0],fun i hi=>by simp [t0] at hi⟩⟩
 ·exact ⟨t,0,0,hr,(townOk hE).lens'⟩
theorem law3 (x:Tw) (text:List UInt8) (l:List Int) (at_ how b:Int) (hx:x.small) (ht:text.length≤maxLen) (hl:(l.length:Int)≤9223372036854775807)
  (ha:-9223372036854775808≤at_∧at_≤9223372036854775807) (hh:-9223372036854775808≤how∧how≤9223372036854775807):LawG gT Tryz.prog 3 [x.av,.str text,.lst 1 (l.map iv),.int .i64 at_,.int .i64 how,.int .u8 b]:=by
 intro h hgl
 have ht2:(text.length:Int)≤9223372036854775807:=by
  have:maxLen=9223372036854775807:=by decide
  omega
 have k6:PureG gT Tryz.prog 6 [] (fun v=>v=.bool true):=c6.g
 have k5:=c5b x 12 hx
 cases hL:vastB x 12 with
 | true =>
  rw [hL] at k5
  refine ACalls.of tab mixed Tryz.call3 Tryz.func3 rfl (fi:=⟨130,[21,24,46],[6,44,46,79,89],none,[(3,[0,0,2,6,15,0,32,31,255],[(0,true),(1,false),(5,false),(6,false),(2,false),(3,false),(4,false),(7,false),(8,false)])]⟩) rfl rfl (Nat.le_of_ble_eq_true rfl) (by decide) ?_
  unfold startA
  try simp only[go_sem]
  repeat' (first|refine st_seq_reg rfl (by first|(simp only[go_sem,Lm];rfl)|rfl) (by first|(simp only[go_sem,Lm];rfl)|rfl) ?_|refine st_op ?_|refine st_det rfl (by simp (disch:=omega) only[go_sem,wr_i64,Lm];rfl) ?_|(refine st_pureE (by first|(simp (disch:=omega) only[go_sem,Lm];rfl)|rfl) rfl (k5) (by first|(simp only[go_sem,Lm];rfl)|rfl) (by intro n;first|(simp (disch:=omega) only[go_sem];rfl)|rfl) ?_;intro n hn)|(refine st_pureGE (by first|(simp (disch:=omega) only[go_sem,Lm];rfl)|rfl) rfl (k6) (by exact hgl) (by first|(simp only[go_sem,Lm];rfl)|rfl) (by intro n;first|(simp (disch:=omega) only[go_sem];rfl)|rfl) ?_;intro n hn)|refine st_gF rfl rfl rfl ?_|refine st_condT rfl ?_|refine st_nil ?_|refine st_seq ?_|refine st_ret ?_|refine st_tR ?_)
  all_goals try (exfalso;omega)
  simp (disch:=omega) only[AEnd,Tryz.results3,aresK,fin,go_sem,implies_true,true_and,and_true,List.reverse_cons,List.reverse_nil]
 | false =>
 rw [hL] at k5
 by_cases h15:1500 < text.length∧text.length≤4000
 ·obtain ⟨h15,h3⟩:=h15
  refine ACalls.of tab mixed Tryz.call3 Tryz.func3 rfl (fi:=⟨130,[21,24,46],[6,44,46,79,89],none,[(3,[0,0,2,6,15,0,32,31,255],[(0,true),(1,false),(5,false),(6,false),(2,false),(3,false),(4,false),(7,false),(8,false)])]⟩) rfl rfl (Nat.le_of_ble_eq_true rfl) (by decide) ?_
  unfold startA
  try simp only[go_sem]
  repeat' (first|refine st_seq_reg rfl (by first|(simp only[go_sem,Lm];rfl)|rfl) (by first|(simp only[go_sem,Lm];rfl)|rfl) ?_|refine st_seq_draw rfl (by first|(simp only[go_sem,Lm];rfl)|rfl) (by first|(simp only[go_sem,Lm];rfl)|rfl) ?_|refine st_op ?_|refine st_det rfl (by simp (disch:=omega) only[go_sem,wr_i64,Lm];rfl) ?_|refine st_dop rfl ?_|(refine st_pureE (by first|(simp (disch:=omega) only[go_sem,Lm];rfl)|rfl) rfl (k5) (by first|(simp only[go_sem,Lm];rfl)|rfl) (by intro n;first|(simp (disch:=omega) only[go_sem];rfl)|rfl) ?_;intro n hn)|(refine st_pureGE (by first|(simp (disch:=omega) only[go_sem,Lm];rfl)|rfl) rfl (k6) (by exact hgl) (by first|(simp only[go_sem,Lm];rfl)|rfl) (by intro n;first|(simp (disch:=omega) only[go_sem];rfl)|rfl) ?_;intro n hn)|refine st_gT rfl rfl rfl ?_|refine st_gF rfl rfl rfl ?_|(refine st_gS rfl rfl ?_ ?_ <;> intro hg <;> (try simp only[dcT,dcF,bnT,bnF] at hg))|refine st_condF rfl ?_|(refine st_condS rfl ?_ ?_ <;> intro hg <;> (try simp only[dcT,dcF,bnT,bnF] at hg))|refine st_nil ?_|refine st_tN ?_|refine st_seq ?_|refine st_skip ?_|refine st_ret ?_|refine st_tR ?_)
  all_goals try (exfalso;omega)
  simp (disch:=omega) only[AEnd,Tryz.results3,aresK,fin,go_sem,implies_true,true_and,and_true,List.reverse_cons,List.reverse_nil]
 refine ACalls.ofS tab Tryz.call3 Tryz.func3 rfl (fi:=⟨130,[21,24,46],[6,44,46,79,89],none,[(3,[0,0,2,6,15,0,32,31,255],[(0,true),(1,false),(5,false),(6,false),(2,false),(3,false),(4,false),(7,false),(8,false)])]⟩) rfl rfl (Nat.le_of_ble_eq_true rfl) ?_
 unfold startA
 try simp only[go_sem]
 refine asem_seq (fi:=⟨130,[21,24,46],[6,44,46,79,89],none,[(3,[0,0,2,6,15,0,32,31,255],[(0,true),(1,false),(5,false),(6,false),(2,false),(3,false),(4,false),(7,false),(8,false)])]⟩) tab mixed (by decide) ?_
 repeat' (first|refine st_reg rfl (by first|(simp only[go_sem];rfl)|rfl) (by first|(simp only[go_sem];rfl)|rfl) ?_|refine st_op ?_|refine st_det rfl (by simp (disch:=omega) only[go_sem,wr_i64];rfl) ?_|refine st_nil ?_|refine st_tN ?_)
 refine asem_cutL (α:=Unit) (fi:=⟨130,[21,24,46],[6,44,46,79,89],none,[(3,[0,0,2,6,15,0,32,31,255],[(0,true),(1,false),(5,false),(6,false),(2,false),(3,false),(4,false),(7,false),(8,false)])]⟩) tab mixed (fun _=>[(1,.str text),(2,.lst 1 (l.map iv)),(3,.int .i64 at_),(4,.int .i64 how),(5,.int .u8 b),(6,.iptr x.av.cells 0),(12,.bool false)]) (fun _=>[]) (fun _=>h) (fun _=>True) (by decide) ?_ ?_
 ·repeat' (first|refine st_seq_reg rfl (by first|(simp only[go_sem,Lm];rfl)|rfl) (by first|(simp only[go_sem,Lm];rfl)|rfl) ?_|refine st_op ?_|refine st_det rfl (by simp (disch:=omega) only[go_sem,wr_i64,Lm];rfl) ?_|(refine st_pureE (by first|(simp (disch:=omega) only[go_sem,Lm];rfl)|rfl) rfl (k5) (by first|(simp only[go_sem,Lm];rfl)|rfl) (by intro n;first|(simp (disch:=omega) only[go_sem];rfl)|rfl) ?_;intro n hn)|refine st_gT rfl rfl rfl ?_|refine st_gF rfl rfl rfl ?_|(refine st_gS rfl rfl ?_ ?_ <;> intro hg <;> (try simp only[dcT,dcF,bnT,bnF] at hg))|refine st_condF rfl ?_|(refine st_condS rfl ?_ ?_ <;> intro hg <;> (try simp only[dcT,dcF,bnT,bnF] at hg))|refine st_nil ?_|refine st_tN ?_|refine st_skip ?_)
  all_goals try (exfalso;omega)
  all_goals exact ⟨(),trivial,⟨rfl,rfl,rfl,rfl,rfl,rfl,rfl,trivial⟩,trivial,rfl,HOld.tick (by (try simp only[go_sem]);omega)⟩
 intro _ n hi_ hn
 clear hi_
 simp only[go_sem] at hn ⊢
 refine asem_seq (fi:=⟨130,[21,24,46],[6,44,46,79,89],none,[(3,[0,0,2,6,15,0,32,31,255],[(0,true),(1,false),(5,false),(6,false),(2,false),(3,false),(4,false),(7,false),(8,false)])]⟩) tab mixed (by decide) ?_
 repeat' (first|refine st_draw rfl (by first|(simp only[go_sem];rfl)|rfl) (by first|(simp only[go_sem];rfl)|rfl) ?_|refine st_det rfl (by simp (disch:=omega) only[go_sem,wr_i64];rfl) ?_|refine st_dop rfl ?_|(refine st_callf rfl rfl (ACalls.keepGl (c8 l hl _)) ?_;rintro v h' ⟨hgl1,bd,xd,nd,rfl,hb1,hb2,hu0,rfl⟩)|(refine st_drum (by first|(simp (disch:=omega) only[go_sem];rfl)|rfl) rfl (c7 bd 4 5 4 (by decide) (by decide) (by decide)) (by first|(simp (disch:=omega) only[go_sem];rfl)|rfl|exact put_same _ _ _) (by assumption) (by first|(simp only[go_sem];rfl)|rfl) (by intro x' n;first|(simp (disch:=omega) only[go_sem];rfl)|rfl) ?_;rintro v x' n hu' ⟨f,rfl,hG⟩ hn)|refine st_dnil ?_|refine st_tN ?_)
 have hgp:((h.tick n).put bd (dr x')).gl=gT:=hgl
 have k9x:=c9 x
 have k10x:=c10 x
 have k9f:=c9 f
 have k10f:=c10 f
 rw [wr_form] at k9x k10x k9f k10f
 have lx:=wS_len x
 have lf:=wS_len f
 obtain ⟨s1,hs1⟩:∃ s,s=wS x:=⟨_,rfl⟩
 obtain ⟨s2,hs2⟩:∃ s,s=wS f:=⟨_,rfl⟩
 rw [← hs1] at k9x k10x lx
 rw [← hs2] at k9f k10f lf
 clear hs1 hs2
 obtain ⟨H0,hH0⟩:∃ H0,H0=(h.tick n).put bd (dr x'):=⟨_,rfl⟩
 rw [← hH0] at hgp ⊢
 clear hH0
 refine asem_seq (fi:=⟨130,[21,24,46],[6,44,46,79,89],none,[(3,[0,0,2,6,15,0,32,31,255],[(0,true),(1,false),(5,false),(6,false),(2,false),(3,false),(4,false),(7,false),(8,false)])]⟩) tab mixed (by decide) ?_
 repeat' (first|refine st_seq_reg rfl (by first|(simp only[go_sem];rfl)|rfl) (by first|(simp only[go_sem];rfl)|rfl) ?_|refine st_op ?_|refine st_det rfl (by simp (disch:=omega) only[go_sem,wr_i64];rfl) ?_|refine st_nil ?_|refine st_block ?_)
 refine st_loopH (α:=Nat × AV × AH) tab mixed [] [] (by repeat (first|exact trivial|refine ⟨rfl,?_⟩)) [] [] (by repeat (first|exact trivial|refine ⟨rfl,?_⟩)) (fun a=>[(15,.int .i64 (a.1:Nat)),(14,a.2.1)]) [(3,_),(4,_),(5,_),(12,_),(13,_)] (fun _=>[]) [] (fun a=>a.2.2) (fun a=>a.2.2.gl=gT∧((a.1=0∧a.2.1=.lstx 1 [[.str text]]) ∨ (a.1=1∧SlA 0 a.2.2 a.2.1 1 [[.str text],[.str s1]]) ∨ (a.1=2∧SlA 0 a.2.2 a.2.1 1 [[.str text],[.str s1],[.str s2]]))) (fun a=>2 - a.1) (by decide) (0,.lstx 1 [[.str text]],_) (by exact ⟨hgp,.inl ⟨rfl,rfl⟩⟩) (by (try simp only[go_sem]);repeat' (first|exact trivial|refine And.intro ?_ ?_|rfl|(simp (disch:=omega) only[go_sem,if_yes,if_no,if_no];rfl)|(simp (disch:=omega) only[go_sem,if_yes,if_no,if_no]))) (by (try simp only[go_sem]);repeat' (first|exact trivial|refine And.intro ?_ ?_|rfl|(simp (disch:=omega) only[go_sem,if_yes,if_no,if_no];rfl)|(simp (disch:=omega) only[go_sem,if_yes,if_no,if_no]))) (HOld.refl _) ?_
 rintro ⟨i,v,g⟩ c ⟨hgl,hcs⟩ hc
 dsimp only at hgl hcs hc
 simp only[go_sem]
 rcases hcs with ⟨rfl,rfl⟩|⟨rfl,hS⟩|⟨rfl,hS⟩
 ·repeat' (first|refine st_seq_reg rfl (by first|(simp only[go_sem,big];rfl)|rfl) (by first|(simp only[go_sem,big];rfl)|rfl) ?_|refine st_reg rfl (by first|(simp only[go_sem,big];rfl)|rfl) (by first|(simp only[go_sem,big];rfl)|rfl) ?_|refine st_op ?_|refine st_det rfl (by simp (disch:=omega) only[go_sem,wr_i64,big];rfl) ?_|refine st_append (by simp (disch:=omega) only[go_sem,wr_i64,big];rfl) ?_|(refine st_pureGE (by first|(simp (disch:=omega) only[go_sem,big];rfl)|rfl) rfl (k9x) (by exact hgl) (by first|(simp only[go_sem,big];rfl)|rfl) (by intro n;first|(simp (disch:=omega) only[go_sem];rfl)|rfl) ?_;intro n hn)|(refine st_pureGE (by first|(simp (disch:=omega) only[go_sem,big];rfl)|rfl) rfl (k10x) (by exact hgl) (by first|(simp only[go_sem,big];rfl)|rfl) (by intro n;first|(simp (disch:=omega) only[go_sem];rfl)|rfl) ?_;intro n hn)|refine st_gT rfl rfl rfl ?_|refine st_condT rfl ?_|refine st_condF rfl ?_|refine st_nil ?_|refine st_tN ?_|refine st_seq ?_|refine st_block ?_|refine st_skip ?_|refine st_bN ?_)
  all_goals try (exfalso;omega)
  refine ⟨(1,.slc (n+1,80) 1 0 2,_),(by exact ⟨hgl,.inr (.inl ⟨rfl,.inr ⟨(n+1,80),rfl,put_same _ _ _,Nat.zero_le _,by (try simp only[go_sem]);omega⟩⟩)⟩),(by show 2 - 1 < 2 - 0;omega),(by repeat' (first|exact trivial|refine And.intro ?_ ?_|rfl|(simp (disch:=omega) only[go_sem,if_yes,if_no,if_no];rfl)|(simp (disch:=omega) only[go_sem,if_yes,if_no,if_no]))),(by repeat' (first|exact trivial|refine And.intro ?_ ?_|rfl|(simp (disch:=omega) only[go_sem,if_yes,if_no,if_no];rfl)|(simp (disch:=omega) only[go_sem,if_yes,if_no,if_no]))),rfl,HOld.refl _⟩
 ·have hnc:=hS.noL
  repeat' (first|refine st_seq_reg rfl (by first|(simp only[go_sem,hnc];rfl)|rfl) (by first|(simp only[go_sem,hnc];rfl)|rfl) ?_|refine st_reg rfl (by first|(simp only[go_sem,hnc];rfl)|rfl) (by first|(simp only[go_sem,hnc];rfl)|rfl) ?_|refine st_op ?_|refine st_det rfl (by simp (disch:=omega) only[go_sem,wr_i64,hnc];rfl) ?_|(refine st_pureGE (by first|(simp (disch:=omega) only[go_sem,hnc];rfl)|rfl) rfl (k9f) (by exact hgl) (by first|(simp only[go_sem,hnc];rfl)|rfl) (by intro n;first|(simp (disch:=omega) only[go_sem];rfl)|rfl) ?_;intro n hn)|(refine st_pureGE (by first|(simp (disch:=omega) only[go_sem,hnc];rfl)|rfl) rfl (k10f) (by exact hgl) (by first|(simp only[go_sem,hnc];rfl)|rfl) (by intro n;first|(simp (disch:=omega) only[go_sem];rfl)|rfl) ?_;intro n hn)|(refine st_appSg (by intro h id x y;simp only[go_sem];rfl) rfl (by simp only[go_sem,hnc];rfl) (by first|(simp only[go_sem,hnc];rfl)|rfl) (by decide) hS (fun _ _ _=>rfl) (by omega) (by simp only[Lm,List.length_cons,List.length_nil,big,hnc];omega) (by omega) (by omega) ?_;intro v' g' hA hAg)|refine st_gT rfl rfl rfl ?_|refine st_condT rfl ?_|refine st_condF rfl ?_|refine st_nil ?_|refine st_tN ?_|refine st_seq ?_|refine st_block ?_|refine st_skip ?_|refine st_bN ?_)
  all_goals try (exfalso;omega)
  refine ⟨(2,v',_),(by exact ⟨hAg.trans hgl,.inr (.inr ⟨rfl,hA.sl.to (fun _ _ _ _ _=>rfl) (by (try simp only[go_sem]);omega)⟩)⟩),(by show 2 - 2 < 2 - 1;omega),(by repeat' (first|exact trivial|refine And.intro ?_ ?_|rfl|(simp (disch:=omega) only[go_sem,if_yes,if_no,if_no];rfl)|(simp (disch:=omega) only[go_sem,if_yes,if_no,if_no]))),(by repeat' (first|exact trivial|refine And.intro ?_ ?_|rfl|(simp (disch:=omega) only[go_sem,if_yes,if_no,if_no];rfl)|(simp (disch:=omega) only[go_sem,if_yes,if_no,if_no]))),rfl,HOld.refl _⟩
 have hnc:=hS.noL
 have hS0:=hS
 obtain ⟨b1,rfl,hbb,_,hlt1⟩:=hS0.resolve_left (by rintro ⟨_,q⟩;cases q)
 repeat' (first|refine st_seq_reg rfl (by first|(simp only[go_sem];rfl)|rfl) (by first|(simp only[go_sem];rfl)|rfl) ?_|refine st_op ?_|refine st_det rfl (by simp (disch:=omega) only[go_sem,wr_i64];rfl) ?_|refine st_condF rfl ?_|refine st_nil ?_|refine st_tN ?_|refine st_seq ?_|refine st_exit ?_|refine st_tE ?_|refine st_bH ?_)
 all_goals try (exfalso;omega)
 refine asem_seq (fi:=⟨130,[21,24,46],[6,44,46,79,89],none,[(3,[0,0,2,6,15,0,32,31,255],[(0,true),(1,false),(5,false),(6,false),(2,false),(3,false),(4,false),(7,false),(8,false)])]⟩) tab mixed (by decide) ?_
 repeat' (first|refine st_reg rfl (by first|(simp only[go_sem,hbb];rfl)|rfl) (by first|(simp only[go_sem,hbb];rfl)|rfl) ?_|refine st_op ?_|refine st_det rfl (by simp (disch:=omega) only[go_sem,wr_i64,hbb];rfl) ?_|refine st_append (by simp (disch:=omega) only[go_sem,wr_i64,hbb];rfl) ?_|(refine st_pure (by first|(simp (disch:=omega) only[go_sem,hbb];rfl)|rfl) rfl (c11 s2 at_ how b (by omega) ha hh) (by first|(simp only[go_sem,hbb];rfl)|rfl) (by intro n;first|(simp (disch:=omega) only[go_sem];rfl)|rfl) ?_;rintro v n ⟨s3,rfl,l3⟩ hn)|refine st_nil ?_|refine st_tN ?_)
 all_goals try (exfalso;omega)
 refine ASem.cutKg 14 1 [[.str text],[.str s1],[.str s2],[.str s3]] (.inr ⟨(c+1,90),by simp [upd],put_same _ _ _⟩) fun H1 h1a h1b h1c h1d=>?_
 have hgl3:H1.gl=gT:=h1d.trans hgl
 clear hgl h1a h1b h1c h1d hnc hS hbb hlt1
 have hgl:=hgl3
 refine asem_seq (fi:=⟨130,[21,24,46],[6,44,46,79,89],none,[(3,[0,0,2,6,15,0,32,31,255],[(0,true),(1,false),(5,false),(6,false),(2,false),(3,false),(4,false),(7,false),(8,false)])]⟩) tab mixed (by decide) ?_
 repeat' (first|refine st_seq_reg rfl (by first|(simp only[go_sem];rfl)|rfl) (by first|(simp only[go_sem];rfl)|rfl) ?_|refine st_op ?_|refine st_det rfl (by simp (disch:=omega) only[go_sem,wr_i64];rfl) ?_|refine st_nil ?_|refine st_block ?_)
 refine st_loopC (α:=Nat) tab mixed [] [] (by repeat (first|exact trivial|refine ⟨rfl,?_⟩)) [] [] (by repeat (first|exact trivial|refine ⟨rfl,?_⟩)) (fun i=>[(20,.int .i64 (i:Nat))]) [(12,_),(14,_)] (fun _=>[]) [] (fun i=>i≤4) (fun i=>4 - i) (by decide) 0 (Nat.zero_le _) (by (try simp only[go_sem]);repeat' (first|exact trivial|refine And.intro ?_ ?_|rfl|(simp (disch:=omega) only[go_sem,if_yes,if_no,if_no];rfl)|(simp (disch:=omega) only[go_sem,if_yes,if_no,if_no]))) (by (try simp only[go_sem]);repeat' (first|exact trivial|refine And.intro ?_ ?_|rfl|(simp (disch:=omega) only[go_sem,if_yes,if_no,if_no];rfl)|(simp (disch:=omega) only[go_sem,if_yes,if_no,if_no]))) (by first|(simp only[go_sem];rfl)|rfl) (by intro n;simp only[go_sem];rfl) ?_
 rintro i c5 hi hc5
 simp only[go_sem]
 by_cases hil:i < 4
 case neg =>
  obtain rfl:i=4:=by omega
  repeat' (first|refine st_seq_reg rfl (by first|(simp only[go_sem,List.length_cons,List.length_nil];rfl)|rfl) (by first|(simp only[go_sem,List.length_cons,List.length_nil];rfl)|rfl) ?_|refine st_op ?_|refine st_det rfl (by simp (disch:=omega) only[go_sem,wr_i64,List.length_cons,List.length_nil];rfl) ?_|refine st_condF rfl ?_|refine st_nil ?_|refine st_tN ?_|refine st_seq ?_|refine st_exit ?_|refine st_tE ?_|refine st_bH ?_)
  all_goals try (exfalso;omega)
  refine asem_awp (fi:=⟨130,[21,24,46],[6,44,46,79,89],none,[(3,[0,0,2,6,15,0,32,31,255],[(0,true),(1,false),(5,false),(6,false),(2,false),(3,false),(4,false),(7,false),(8,false)])]⟩) tab mixed (by decide) ?_
  repeat' (first|refine st_seq_reg rfl (by first|(simp only[go_sem];rfl)|rfl) (by first|(simp only[go_sem];rfl)|rfl) ?_|refine st_op ?_|refine st_det rfl (by simp (disch:=omega) only[go_sem,wr_i64];rfl) ?_|(refine st_pureGE (by first|(simp (disch:=omega) only[go_sem];rfl)|rfl) rfl (k6) (by exact hgl) (by first|(simp only[go_sem];rfl)|rfl) (by intro n;first|(simp (disch:=omega) only[go_sem];rfl)|rfl) ?_;intro n hn)|refine st_nil ?_|refine st_ret ?_)
  simp (disch:=omega) only[AEnd,Tryz.results3,aresK,fin,go_sem,implies_true,true_and,and_true,List.reverse_cons,List.reverse_nil]
 obtain ⟨t,ht1,ht2⟩:∃ t,[[AV.str text],[.str s1],[.str s2],[.str s3]].getD i []=[.str t]∧(t.length:Int)≤9223372036854775807:=by
  have hq:i=0 ∨ i=1 ∨ i=2 ∨ i=3:=by omega
  rcases hq with rfl|rfl|rfl|rfl
  ·exact ⟨text,rfl,ht2⟩
  ·exact ⟨s1,rfl,by omega⟩
  ·exact ⟨s2,rfl,by omega⟩
  ·exact ⟨s3,rfl,by omega⟩
 obtain ⟨F,k,e,hr,hF⟩:=rd_form t
 have k12:=c12 t ht2
 have k13:=c13 t ht2
 rw [hr] at k12 k13
 have k14:=c14 F hF
 repeat' (first|refine st_seq_reg rfl (by first|(simp only[go_sem,List.length_cons,List.length_nil,ht1];rfl)|rfl) (by first|(simp only[go_sem,List.length_cons,List.length_nil,ht1];rfl)|rfl) ?_|refine st_reg rfl (by first|(simp only[go_sem,List.length_cons,List.length_nil,ht1];rfl)|rfl) (by first|(simp only[go_sem,List.length_cons,List.length_nil,ht1];rfl)|rfl) ?_|refine st_op ?_|refine st_det rfl (by simp (disch:=omega) only[go_sem,wr_i64,List.length_cons,List.length_nil,ht1];rfl) ?_|refine st_loc rfl (by simp (disch:=omega) only[go_sem,wr_i64,List.length_cons,List.length_nil,ht1];rfl) ?_|refine st_store (by simp (disch:=omega) only[go_sem,wr_i64,List.length_cons,List.length_nil,ht1];rfl) ?_|(refine st_pureGE (by first|(simp (disch:=omega) only[go_sem,List.length_cons,List.length_nil,ht1];rfl)|rfl) rfl (k12) (by exact hgl) (by first|(simp only[go_sem,List.length_cons,List.length_nil,ht1];rfl)|rfl) (by intro n;first|(simp (disch:=omega) only[go_sem];rfl)|rfl) ?_;intro n hn)|(refine st_pureGE (by first|(simp (disch:=omega) only[go_sem,List.length_cons,List.length_nil,ht1];rfl)|rfl) rfl (k13) (by exact hgl) (by first|(simp only[go_sem,List.length_cons,List.length_nil,ht1];rfl)|rfl) (by intro n;first|(simp (disch:=omega) only[go_sem];rfl)|rfl) ?_;intro n hn)|(refine st_pureE (by first|(simp (disch:=omega) only[go_sem,List.length_cons,List.length_nil,ht1];rfl)|rfl) rfl (k14) (by first|(simp only[go_sem,List.length_cons,List.length_nil,ht1];rfl)|rfl) (by intro n;first|(simp (disch:=omega) only[go_sem];rfl)|rfl) ?_;intro n hn)|refine st_gT rfl rfl rfl ?_|refine st_condF rfl ?_|(refine st_condS rfl ?_ ?_ <;> intro hg <;> (try simp only[dcT,dcF,bnT,bnF] at hg))|refine st_nil ?_|refine st_tN ?_|refine st_seq ?_|refine st_block ?_|refine st_skip ?_|refine st_exit ?_|refine st_tE ?_|refine st_bN ?_|refine st_bH ?_)
 all_goals try (exfalso;omega)
 refine ⟨i+1,(by omega),by omega,(by repeat' (first|exact trivial|refine And.intro ?_ ?_|rfl|(simp (disch:=omega) only[go_sem,if_yes,if_no,if_no];rfl)|(simp (disch:=omega) only[go_sem,if_yes,if_no,if_no]))),(by repeat' (first|exact trivial|refine And.intro ?_ ?_|rfl|(simp (disch:=omega) only[go_sem,if_yes,if_no,if_no];rfl)|(simp (disch:=omega) only[go_sem,if_yes,if_no,if_no]))),rfl,(by first|exact HOld.of _ (by omega)|exact HOld.put _ _ _ (by omega))⟩
end Go.Proofs.YtoafigpikgigaaaGreatDoor

namespace Go.Proofs.YtoafigpikgigaaaGreatDoor
open Go.Av Go.ChangeShapes Go.WideShapes Go.ChangeAt Go.RowKit
abbrev laidL : List (String × DataW Unit) := [("math/bits.deBruijn32tab", Rows.laid_math_bits_deBruijn32tab), ("math/bits.deBruijn64tab", Rows.laid_math_bits_deBruijn64tab), ("internal/strconv.uint64pow10", Rows.laid_internal_strconv_uint64pow10), ("unicode/utf8.acceptRanges", Rows.laid_unicode_utf8_acceptRanges), ("strconv.ErrRange", Rows.laid_strconv_ErrRange), ("strconv.ErrSyntax", Rows.laid_strconv_ErrSyntax), ("unicode/utf8.first", Rows.laid_unicode_utf8_first)]
theorem g1 : Tryz.prog.globalNamed "internal/strconv.uint64pow10" = some 0 := by kernel_rfl
theorem g3 : Tryz.prog.globalNamed "strconv.ErrSyntax" = some 2 := by kernel_rfl
theorem g4 : Tryz.prog.globalNamed "strconv.ErrRange" = some 3 := by kernel_rfl
theorem t1:(Tryz.prog.globals[0]?).map (·.type)=some 157:=by kernel_rfl
theorem t3:(Tryz.prog.globals[2]?).map (·.type)=some 77:=by kernel_rfl
theorem t4:(Tryz.prog.globals[3]?).map (·.type)=some 77:=by kernel_rfl
theorem uP10:Tryz.prog.underlying 157=some (.array 20 68):=by kernel_rfl
theorem uErr : Tryz.prog.underlying 77 = some (.interface #[("Error", 83)]) := by kernel_rfl
theorem uI:Tryz.prog.underlying 3=some (.int .i64):=by kernel_rfl
theorem uU:Tryz.prog.underlying 68=some (.int .u64):=by kernel_rfl
theorem gl_of {W:World} {n:String} {g:Nat} {cs:Array Value} {avs:List AV} (hg:Tryz.prog.globalNamed n=some g) (hv:W.var? Tryz.prog n=some cs) (h1:VRs (c00 W) avs cs.toList) (h2:avs.all AV.cell=true) :
  (c00 W).im g∧avs.all AV.cell=true∧∃ xs,(c00 W).w.rangeAt g 0 xs∧VRs (c00 W) avs xs∧∃ ty fz,(c00 W).w.heap[g]?=some (.cells xs.toArray ty fz):=by
 have hb:∃ ty fz,W.heap[g]?=some (.cells cs ty fz):=by
  unfold World.var? at hv
  rw [hg] at hv
  simp only[Option.bind_some] at hv
  split at hv
  ·rename_i c a b e
   injection hv with hv
   subst hv
   exact ⟨a,b,e⟩
  ·cases hv
 obtain ⟨ty,fz,hb⟩:=hb
 have hlt:g < W.heap.size:=by
  rcases Nat.lt_or_ge g W.heap.size with h|h
  ·exact h
  ·rw [Array.getElem?_eq_none h] at hb;cases hb
 refine ⟨hlt,h2,cs.toList,fun j v hj=>?_,h1,ty,fz,by rw [show cs.toList.toArray=cs by simp];exact hb⟩
 rw [Nat.zero_add]
 show W.cell? ⟨g,j,none⟩=some v
 rw [World.var?_cell hg hv j,← Array.getElem?_toList];exact hj
theorem vrs_ints {c:Cx} {k:IntKind}:∀ (l:List Int),VRs c (l.map fun z=>AV.int k z) (l.map fun z=>Value.int k z)
 | []=>by simp [VRs]
 | x :: l=>by simp only[List.map_cons,VRs];exact ⟨_,_,rfl,by simp [VR],vrs_ints l⟩
theorem ifc_of {W:World} {fuel:Nat} {cs:List Value} {nm:String} {d:DataW Unit} {p:List MemPlace} (h:DataW.trod (fun _=>()) Tryz.prog W 0 (fun _=>true) false fuel 77 cs=some (.iface nm d,p)):VRs (c00 W) [.ifc] cs:=by
 obtain ⟨_,u,v,e,_⟩:=iface_of_trod uErr h
 rw [e]
 simp only[VRs,VR]
 exact ⟨_,_,rfl,⟨_,_,rfl⟩,rfl⟩
def maxI (W:World):Prop:=∃ m ty fz,W.heap[1]?=some (.cells #[.int .i64 m] ty fz)
theorem glB {W:World} (h:laidMetH Tryz.prog laidL W) (hm:maxI W):GL (c00 W) gT:=by
 have h':laidMet Tryz.prog laidL W:=h
 obtain ⟨ps,hL,_⟩:=h'
 obtain ⟨_,_,_,_,_,_,_,_,_,_,hL,_⟩:=hL
 obtain ⟨_,_,_,_,_,_,_,_,_,_,hL,_⟩:=hL
 obtain ⟨ga,ta,ca,fa,pa,qa,a1,a2,a3,a4,hL,_⟩:=hL
 obtain ⟨_,_,_,_,_,_,_,_,_,_,hL,_⟩:=hL
 obtain ⟨gb,tb,cb,fb,pb,qb,b1,b2,b3,b4,hL,_⟩:=hL
 obtain ⟨gc,tc,cc,fc,pc,qc,c1,c2,c3,c4,hL,_⟩:=hL
 obtain rfl:=Option.some.inj (g1.symm.trans a1)
 obtain rfl:=Option.some.inj (g4.symm.trans b1)
 obtain rfl:=Option.some.inj (g3.symm.trans c1)
 obtain rfl:=Option.some.inj (t1.symm.trans a2)
 obtain rfl:=Option.some.inj (t4.symm.trans b2)
 obtain rfl:=Option.some.inj (t3.symm.trans c2)
 have a5:=Lib.cells_of_tab (k:=.u64) (zs:=[1,10,100,1000,10000,100000,1000000,10000000,100000000,1000000000,10000000000,100000000000,1000000000000,10000000000000,100000000000000,1000000000000000,10000000000000000,100000000000000000,1000000000000000000,10000000000000000000]) uP10 uU (by kernel_rfl) (by kernel_rfl) a4
 have b5:=ifc_of b4
 have c5:=ifc_of c4
 intro i row hi
 unfold gT at hi
 split at hi
 ·rename_i e;subst e;cases hi
  exact gl_of g1 a3 (by rw [a5];exact vrs_ints _) rfl
 split at hi
 ·rename_i e;subst e;cases hi
  obtain ⟨m,ty,fz,hb⟩:=hm
  have hv : W.var? Tryz.prog "internal/bytealg.MaxLen" = some #[.int .i64 m] := by
   unfold World.var?
   rw [show Tryz.prog.globalNamed "internal/bytealg.MaxLen" = some 1 by kernel_rfl]
   simp only[Option.bind_some,hb]
  exact gl_of (by kernel_rfl) hv (by simp only[VRs,VR];exact ⟨_,_,rfl,⟨_,rfl⟩,rfl⟩) rfl
 split at hi
 ·rename_i e;subst e;cases hi
  exact gl_of g3 c3 c5 rfl
 split at hi
 ·rename_i e;subst e;cases hi
  exact gl_of g4 b3 b5 rfl
 ·cases hi
theorem max_of_shape {W:World} (h:W.ShapedOpen Tryz.prog):maxI W:=by
 have h0:((begin Tryz.prog (fun _ _=>0) default).world.heap[1]?).bind Obj.row?=some (#[.int .i64 0],3):=by kernel_rfl
 obtain ⟨m,hm⟩:=cell_of_shapedOpen_int (k:=.i64) h (of_decide_eq_true (show decide (1 < Tryz.prog.globals.size)=true by kernel_rfl)) h0 rfl (by kernel_rfl) (by kernel_rfl) uI
 obtain ⟨cs,hh,hs,_⟩:=h.1 1 _ _ (of_decide_eq_true (show decide (1 < Tryz.prog.globals.size)=true by kernel_rfl)) h0
 obtain ⟨l⟩:=cs
 match l,hs with
 | [x],_ =>
  have:W.cell? ⟨1,0,none⟩=some x:=by simp [World.cell?,hh]
  rw [this] at hm
  injection hm with hm
  subst hm
  exact ⟨m,_,_,hh⟩
theorem change_and_shaped {H:Type} {enc:TypeId × Value→H} {a:Assume} {C:Checked} {os:Os} {f:FuncId} {fn:Func} {s:ChangeSpec} {conds:List PathCond} {apart fresh handsOn again:Bool} {X:World→Array Value→Prop}
  (hX:∀ (w w':World) (args:Array Value),w.heap=w'.heap→X w args→X w' args)
  (own:ownKnob C.prog.godebug=none) (started:os.Started) (noInit:C.prog.inits.idxOf? f=none) (hfn:C.prog.funcs[f]?=some fn)
  (witness:∃ (w:World) (tape:Tape) (i:Input),w.os=os∧(w.forCall tape i).Shaped C.prog∧i.vars=[]∧Input.okWide C.prog (w.forCall tape i) .any w.heap.size f i ∧
   ((s.pre enc C.prog fn conds apart (w.forCall tape i).memory i.args∧X (w.forCall tape i).memory i.args)∧sizedMet enc C.prog fn (OpenSpec.ofChange s) apart (w.forCall tape i).memory i.args)∧a.holds C.prog (lone (Frame.enter C.prog f i.args .normal) [] (w.forCall tape i)))
  (contract:∀ (W:World) (base:Nat) (args:Array Value) (ds gs:List (DataW H)) (before:List MemPlace),
   (∀ (j:Nat) t v,fn.params[j]?=some t→args[j]?=some v→Value.okWide C.prog W .any base t v) →
   DataW.Whole enc C.prog fn.params.toList s.vars apart W args.toList ds gs before→X W args→W.ShapedOpen C.prog →
   Calls C.prog f args W fun e W'=>∃ v,e=.returned v∧s.post enc C.prog fn apart fresh handsOn again W args v W') :
  ReturnsInHanded a C os f .any (fun w args=>(s.pre enc C.prog fn conds apart w args∧X w args)∧sizedMet enc C.prog fn (OpenSpec.ofChange s) apart w args) (s.post enc C.prog fn apart fresh handsOn again):=by
 refine returnsInHanded_of_calls own started noInit witness ?_
 intro w tape i _ hsh _ hok hpre hholds
 obtain ⟨_,_,_,fn',hfn',_,_,_,_,hval⟩:=hok
 have e:fn'=fn:=Option.some.inj (hfn'.symm.trans hfn)
 subst e
 obtain ⟨⟨⟨ds,gs,before,hw,hc⟩,hx⟩,hz⟩:=hpre
 have hw':=DataW.Whole.of_heap (w':=w.forCall tape i) (by rfl) hw
 refine (contract (w.forCall tape i) w.heap.size i.args ds gs before hval hw' (hX _ _ _ (by rfl) hx) hsh).mono fun e W' ⟨v,he,hp⟩=>?_
 subst he
 exact ChangeSpec.post_blind hp
abbrev synS:ByteArray:={ data:=#[105,110,118,97,108,105,100,32,115,121,110,116,97,120] }
abbrev rngS:ByteArray:={ data:=#[118,97,108,117,101,32,111,117,116,32,111,102,32,114,97,110,103,101] }
def fl1:DataW Unit→List Value
 | .lit (.int k n)=>[.int k n]
 | _=>[]
def fl2:DataW Unit→List Value
 | .agg ps=>ps.flatMap fl1
 | d=>fl1 d
def fl3:DataW Unit→List Value
 | .agg ps=>ps.flatMap fl2
 | d=>fl1 d
def setCs (cs:List Value):Obj→Obj
 | .cells _ t frozen=>.cells cs.toArray t frozen
 | o=>o
noncomputable def low:Nat:=(World.holding Tryz.prog default ⟨#[],#[],[]⟩).heap.size
noncomputable def laidWorld (os:Os):World :=
 let w0:=World.holding Tryz.prog os ⟨#[.cells #[.string synS] 178,.cells #[.string rngS] 178],#[],[]⟩
 { w0 with heap:=((((((w0.heap.modify 0 (setCs (fl3 Rows.laid_internal_strconv_uint64pow10))).modify 2 (setCs [.iface 176 (.pointer (some ⟨low,0,none⟩))])).modify 3 (setCs [.iface 176 (.pointer (some ⟨low+1,0,none⟩))])).modify 4 (setCs (fl3 Rows.laid_unicode_utf8_first))).modify 5 (setCs (fl3 Rows.laid_unicode_utf8_acceptRanges))).modify 6 (setCs (fl3 Rows.laid_math_bits_deBruijn32tab))).modify 7 (setCs (fl3 Rows.laid_math_bits_deBruijn64tab)) }
theorem laidWorld_met (os:Os) (args:Array Value):laidMetH Tryz.prog laidL ((laidWorld os).forCall (fun _ _=>0) ⟨#[],args,[]⟩).memory :=
 show laidMet _ _ _ from laidMet_of_run' 8 (by kernel_rfl) (by kernel_rfl)
end Go.Proofs.YtoafigpikgigaaaGreatDoor

