/- Contracts of functions that the claim reaches: what each call gives, told in our own logic. Conditions: those of each theorem. -/
import Derived.Test.YtoafigpikgigaaaGreatDoorW6
set_option linter.all false
set_option linter.unusedSimpArgs false
set_option linter.unusedVariables false
namespace Go.Proofs.YtoafigpikgigaaaGreatDoor
open Go.Av Go.Txt Go.Lib
attribute [local irreducible] thenA blockA awp awpOps awpD awp1
attribute [local go_sem_proc] Nat.reduceAdd Nat.reduceMul Nat.reduceEqDiff Nat.reduceBEq Nat.reduceLeDiff
attribute [local go_sem_proc ↓] reduceIte
attribute [local go_sem] if_yes if_no
set_option maxHeartbeats 8000000
set_option maxRecDepth 20000
def numV (k:Nat) (s:List UInt8):AV:=match numP k s with
 | some n=>.tup [.int .i64 (n:Nat),.bool true]
 | none=>.tup [.int .i64 0,.bool false]
theorem take_b {s:List UInt8} {i:Nat} (h:i < s.length):s.take (i+1)=s.take i ++ [s.getD i 0]:=by
 rw [List.take_add_one,List.getElem?_eq_getElem h,List.getD_eq_getElem?_getD,List.getElem?_eq_getElem h];rfl
theorem valN_take {s:List UInt8} {i:Nat} (h:i < s.length):valN 0 (s.take (i+1))=10 * valN 0 (s.take i)+((s.getD i 0).toNat - 48):=by
 rw [take_b h,valN_app,valN_cons,valN_nil]
theorem all_take {s:List UInt8} {i:Nat} (h:i < s.length):(s.take (i+1)).all dig=((s.take i).all dig && dig (s.getD i 0)):=by
 rw [take_b h,List.all_append];simp
theorem b_mem {s:List UInt8} {i:Nat} (h:i < s.length):s.getD i 0 ∈ s:=by
 rw [List.getD_eq_getElem?_getD,List.getElem?_eq_getElem h];exact List.getElem_mem h
theorem u8_lt (b:UInt8):b.toNat < 256:=UInt8.toNat_lt b
theorem idx9 {l:List UInt8} {k:IntKind} {i:Int} (h:0≤i∧i < l.length):aindex tt 9 (.str l) (.int k i)=some (.int .u8 (l.getD i.toNat 0).toNat):=by
 show (if 0≤i∧i < l.length then _ else _)=_
 rw [if_pos h]
theorem toNat0:Int.toNat 0=0:=rfl
theorem c63 (s:List UInt8):Pure Tryz.prog 63 [.str s] (fun v=>v=numV 7 s):=by
 intro h
 by_cases h1:s.length < 1
 ·have e:numV 7 s=.tup [.int .i64 0,.bool false]:=by unfold numV numP;rw [if_pos (.inl h1)]
  refine ACalls.forget (ACalls.of tab mixed Tryz.call63 Tryz.func63 rfl (fi:=⟨49,[],[],none,[]⟩) rfl rfl (Nat.le_of_ble_eq_true rfl) (by decide) ?_)
  unfold startA
  try simp only[go_sem]
  repeat' (first|refine st_seq_reg rfl (by first|(simp only[go_sem];rfl)|rfl) (by first|(simp only[go_sem];rfl)|rfl) ?_|refine st_op ?_|refine st_det rfl (by simp (disch:=omega) only[go_sem,wr_i64];rfl) ?_|refine st_gT rfl rfl rfl ?_|refine st_gF rfl rfl rfl ?_|(refine st_gS rfl rfl ?_ ?_ <;> intro hg <;> (try simp only[dcT,dcF,bnT,bnF] at hg))|refine st_condT rfl ?_|refine st_nil ?_|refine st_seq ?_|refine st_ret ?_|refine st_tR ?_)
  all_goals try (exfalso;omega)
  simp (disch:=omega) only[AEnd,Tryz.results63,aresK,fin,go_sem,implies_true,true_and,and_true,List.reverse_cons,List.reverse_nil]
  exact e.symm
 by_cases h2:7 < s.length
 ·have e:numV 7 s=.tup [.int .i64 0,.bool false]:=by unfold numV numP;rw [if_pos (.inr (.inl h2))]
  refine ACalls.forget (ACalls.of tab mixed Tryz.call63 Tryz.func63 rfl (fi:=⟨49,[],[],none,[]⟩) rfl rfl (Nat.le_of_ble_eq_true rfl) (by decide) ?_)
  unfold startA
  try simp only[go_sem]
  repeat' (first|refine st_seq_reg rfl (by first|(simp only[go_sem];rfl)|rfl) (by first|(simp only[go_sem];rfl)|rfl) ?_|refine st_op ?_|refine st_det rfl (by simp (disch:=omega) only[go_sem,wr_i64];rfl) ?_|refine st_gT rfl rfl rfl ?_|refine st_gF rfl rfl rfl ?_|(refine st_gS rfl rfl ?_ ?_ <;> intro hg <;> (try simp only[dcT,dcF,bnT,bnF] at hg))|refine st_condT rfl ?_|refine st_nil ?_|refine st_seq ?_|refine st_ret ?_|refine st_tR ?_)
  all_goals try (exfalso;omega)
  simp (disch:=omega) only[AEnd,Tryz.results63,aresK,fin,go_sem,implies_true,true_and,and_true,List.reverse_cons,List.reverse_nil]
  exact e.symm
 have hb0:=u8_lt (s.getD 0 0)
 by_cases h3:(s.getD 0 0).toNat=48∧1 < s.length
 ·have e:numV 7 s=.tup [.int .i64 0,.bool false]:=by
   have hh:s.head?=some 48:=by
    cases s with
    | nil=>simp at h1
    | cons b s=>exact congrArg some (UInt8.toNat_inj.1 h3.1)
   unfold numV numP
   rw [if_pos (.inr (.inr ⟨hh,h3.2⟩))]
  refine ACalls.forget (ACalls.of tab mixed Tryz.call63 Tryz.func63 rfl (fi:=⟨49,[],[],none,[]⟩) rfl rfl (Nat.le_of_ble_eq_true rfl) (by decide) ?_)
  unfold startA
  try simp only[go_sem]
  repeat' (first|refine st_seq_reg rfl (by first|(simp only[go_sem,idx9,toNat0,h3.1];rfl)|rfl) (by first|(simp only[go_sem,idx9,toNat0,h3.1];rfl)|rfl) ?_|refine st_op ?_|refine st_det rfl (by simp (disch:=omega) only[go_sem,wr_i64,idx9,toNat0,h3.1];rfl) ?_|refine st_gT rfl rfl rfl ?_|refine st_gF rfl rfl rfl ?_|(refine st_gS rfl rfl ?_ ?_ <;> intro hg <;> (try simp only[dcT,dcF,bnT,bnF] at hg))|refine st_condT rfl ?_|(refine st_condS rfl ?_ ?_ <;> intro hg <;> (try simp only[dcT,dcF,bnT,bnF] at hg))|refine st_nil ?_|refine st_tN ?_|refine st_seq ?_|refine st_block ?_|refine st_skip ?_|refine st_ret ?_|refine st_tR ?_)
  all_goals try (exfalso;omega)
  simp (disch:=omega) only[AEnd,Tryz.results63,aresK,fin,go_sem,implies_true,true_and,and_true,List.reverse_cons,List.reverse_nil]
  exact e.symm
 have hP:numP 7 s=if s.all dig then some (valN 0 s) else none:=by
  unfold numP
  rw [if_neg]
  rintro (q|q|⟨q1,q2⟩)
  ·exact h1 q
  ·exact h2 q
  ·refine h3 ⟨?_,q2⟩
   cases s with
   | nil=>simp at h1
   | cons b s=>rw [List.head?_cons] at q1;injection q1 with q1;subst q1;rfl
 refine ACalls.forget (ACalls.of tab mixed Tryz.call63 Tryz.func63 rfl (fi:=⟨49,[],[],none,[]⟩) rfl rfl (Nat.le_of_ble_eq_true rfl) (by decide) ?_)
 unfold startA
 try simp only[go_sem]
 by_cases h4:(s.getD 0 0).toNat=48
 all_goals
  repeat' (first|refine st_seq_reg rfl (by first|(simp only[go_sem,idx9,toNat0,h4];rfl)|rfl) (by first|(simp only[go_sem,idx9,toNat0,h4];rfl)|rfl) ?_|refine st_op ?_|refine st_det rfl (by simp (disch:=omega) only[go_sem,wr_i64,idx9,toNat0,h4];rfl) ?_|refine st_gT rfl rfl rfl ?_|refine st_gF rfl rfl rfl ?_|(refine st_gS rfl rfl ?_ ?_ <;> intro hg <;> (try simp only[dcT,dcF,bnT,bnF] at hg))|refine st_condT rfl ?_|refine st_condF rfl ?_|(refine st_condS rfl ?_ ?_ <;> intro hg <;> (try simp only[dcT,dcF,bnT,bnF] at hg))|refine st_nil ?_|refine st_tN ?_|refine st_seq ?_|refine st_block ?_|refine st_skip ?_|refine st_ret ?_|refine st_tR ?_)
  all_goals try (exfalso;omega)
  refine st_loopC (α:=Nat) tab mixed [] [] (by repeat (first|exact trivial|refine ⟨rfl,?_⟩)) [] [] (by repeat (first|exact trivial|refine ⟨rfl,?_⟩)) (fun i=>[(5,.int .i64 (i:Nat)),(4,.int .i64 ((valN 0 (s.take i):Nat):Int))]) [(0,_),(2,_),(3,_)] (fun _=>[]) [] (fun i=>i≤s.length∧(s.take i).all dig=true) (fun i=>s.length - i) (by decide) 0 ⟨Nat.zero_le _,rfl⟩ (by (try simp only[go_sem]);repeat' (first|exact trivial|refine And.intro ?_ ?_|rfl|(simp (disch:=omega) only[go_sem,if_yes,if_no,if_no];rfl)|(simp (disch:=omega) only[go_sem,if_yes,if_no,if_no]))) (by (try simp only[go_sem]);repeat' (first|exact trivial|refine And.intro ?_ ?_|rfl|(simp (disch:=omega) only[go_sem,if_yes,if_no,if_no];rfl)|(simp (disch:=omega) only[go_sem,if_yes,if_no,if_no]))) (by first|(simp only[go_sem];rfl)|rfl) (by intro n;simp only[go_sem];rfl) ?_
  rintro i c ⟨hi,hal⟩ hc
  simp only[go_sem]
  by_cases hil:i < s.length
  case neg =>
   obtain rfl:i=s.length:=by omega
   rw [List.take_length] at hal ⊢
   repeat' (first|refine st_seq_reg rfl (by first|(simp only[go_sem];rfl)|rfl) (by first|(simp only[go_sem];rfl)|rfl) ?_|refine st_op ?_|refine st_det rfl (by simp (disch:=omega) only[go_sem,wr_i64];rfl) ?_|(refine st_condS rfl ?_ ?_ <;> intro hg <;> (try simp only[dcT,dcF,bnT,bnF] at hg))|refine st_nil ?_|refine st_tN ?_|refine st_seq ?_|refine st_block ?_|refine st_skip ?_|refine st_exit ?_|refine st_ret ?_|refine st_tE ?_|refine st_bH ?_)
   all_goals try (exfalso;omega)
   simp (disch:=omega) only[AEnd,Tryz.results63,aresK,fin,go_sem,implies_true,true_and,and_true,List.reverse_cons,List.reverse_nil]
   unfold numV
   rw [hP,if_pos hal]
  have hvb:valN 0 (s.take i) < 10000000000:=by
   have h5:=val_lt (s.take i) 0 hal
   have h6:10 ^ (s.take i).length≤10 ^ 10:=Nat.pow_le_pow_right (by decide) (by rw [List.length_take];omega)
   omega
  have hnx:=valN_take hil
  have hax:=all_take hil
  rw [hal,Bool.true_and] at hax
  have hdb:=u8_lt (s.getD i 0)
  have hmem:=b_mem hil
  obtain ⟨d,hd⟩:∃ d,d=(s.getD i 0).toNat:=⟨_,rfl⟩
  obtain ⟨q,hq⟩:∃ q,q=valN 0 (s.take i):=⟨_,rfl⟩
  rw [← hd] at hdb hnx
  rw [← hq] at hvb hnx ⊢
  have hbad:¬ (48≤d∧d≤57)→numV 7 s=.tup [.int .i64 0,.bool false]:=by
   intro hn
   unfold numV
   rw [hP,if_neg]
   intro hall
   exact hn (by rw [hd];exact dig_iff.1 (List.all_eq_true.1 hall _ hmem))
  by_cases h5:d < 48
  ·repeat' (first|refine st_seq_reg rfl (by first|(simp only[go_sem,idx9,Int.toNat_natCast,← hd];rfl)|rfl) (by first|(simp only[go_sem,idx9,Int.toNat_natCast,← hd];rfl)|rfl) ?_|refine st_reg rfl (by first|(simp only[go_sem,idx9,Int.toNat_natCast,← hd];rfl)|rfl) (by first|(simp only[go_sem,idx9,Int.toNat_natCast,← hd];rfl)|rfl) ?_|refine st_op ?_|refine st_det rfl (by simp (disch:=omega) only[go_sem,wr_i64,idx9,Int.toNat_natCast,← hd];rfl) ?_|refine st_gT rfl rfl rfl ?_|refine st_gF rfl rfl rfl ?_|(refine st_gS rfl rfl ?_ ?_ <;> intro hg <;> (try simp only[dcT,dcF,bnT,bnF] at hg))|refine st_condT rfl ?_|(refine st_condS rfl ?_ ?_ <;> intro hg <;> (try simp only[dcT,dcF,bnT,bnF] at hg))|refine st_nil ?_|refine st_tN ?_|refine st_seq ?_|refine st_block ?_|refine st_skip ?_|refine st_exit ?_|refine st_ret ?_|refine st_tE ?_|refine st_tR ?_|refine st_bN ?_|refine st_bR ?_|refine st_bH ?_)
   all_goals try (exfalso;omega)
   simp (disch:=omega) only[AEnd,Tryz.results63,aresK,fin,go_sem,implies_true,true_and,and_true,List.reverse_cons,List.reverse_nil]
   exact (hbad (by omega)).symm
  by_cases h6:57 < d
  ·repeat' (first|refine st_seq_reg rfl (by first|(simp only[go_sem,idx9,Int.toNat_natCast,← hd];rfl)|rfl) (by first|(simp only[go_sem,idx9,Int.toNat_natCast,← hd];rfl)|rfl) ?_|refine st_reg rfl (by first|(simp only[go_sem,idx9,Int.toNat_natCast,← hd];rfl)|rfl) (by first|(simp only[go_sem,idx9,Int.toNat_natCast,← hd];rfl)|rfl) ?_|refine st_op ?_|refine st_det rfl (by simp (disch:=omega) only[go_sem,wr_i64,idx9,Int.toNat_natCast,← hd];rfl) ?_|refine st_gT rfl rfl rfl ?_|refine st_gF rfl rfl rfl ?_|(refine st_gS rfl rfl ?_ ?_ <;> intro hg <;> (try simp only[dcT,dcF,bnT,bnF] at hg))|refine st_condT rfl ?_|(refine st_condS rfl ?_ ?_ <;> intro hg <;> (try simp only[dcT,dcF,bnT,bnF] at hg))|refine st_nil ?_|refine st_tN ?_|refine st_seq ?_|refine st_block ?_|refine st_skip ?_|refine st_exit ?_|refine st_ret ?_|refine st_tE ?_|refine st_tR ?_|refine st_bN ?_|refine st_bR ?_|refine st_bH ?_)
   all_goals try (exfalso;omega)
   simp (disch:=omega) only[AEnd,Tryz.results63,aresK,fin,go_sem,implies_true,true_and,and_true,List.reverse_cons,List.reverse_nil]
   exact (hbad (by omega)).symm
  repeat' (first|refine st_seq_reg rfl (by first|(simp only[go_sem,idx9,Int.toNat_natCast,← hd,wr_u8];rfl)|rfl) (by first|(simp only[go_sem,idx9,Int.toNat_natCast,← hd,wr_u8];rfl)|rfl) ?_|refine st_reg rfl (by first|(simp only[go_sem,idx9,Int.toNat_natCast,← hd,wr_u8];rfl)|rfl) (by first|(simp only[go_sem,idx9,Int.toNat_natCast,← hd,wr_u8];rfl)|rfl) ?_|refine st_op ?_|refine st_det rfl (by simp (disch:=omega) only[go_sem,wr_i64,idx9,Int.toNat_natCast,← hd,wr_u8];rfl) ?_|refine st_gT rfl rfl rfl ?_|refine st_gF rfl rfl rfl ?_|(refine st_gS rfl rfl ?_ ?_ <;> intro hg <;> (try simp only[dcT,dcF,bnT,bnF] at hg))|refine st_condT rfl ?_|(refine st_condS rfl ?_ ?_ <;> intro hg <;> (try simp only[dcT,dcF,bnT,bnF] at hg))|refine st_nil ?_|refine st_tN ?_|refine st_seq ?_|refine st_block ?_|refine st_skip ?_|refine st_exit ?_|refine st_ret ?_|refine st_tE ?_|refine st_tR ?_|refine st_bN ?_|refine st_bR ?_|refine st_bH ?_)
  all_goals try (exfalso;omega)
  have hval:(10 * (q:Int)+((d:Int) - 48))=((valN 0 (s.take (i+1)):Nat):Int):=by rw [hnx];omega
  refine ⟨i+1,(by exact ⟨by omega,by rw [hax];exact dig_iff.2 (by rw [← hd];omega)⟩),(by omega),(by (try (rw [hval]));repeat' (first|exact trivial|refine And.intro ?_ ?_|rfl|(simp (disch:=omega) only[go_sem,if_yes,if_no,if_no];rfl)|(simp (disch:=omega) only[go_sem,if_yes,if_no,if_no]))),(by (try (rw [hval]));repeat' (first|exact trivial|refine And.intro ?_ ?_|rfl|(simp (disch:=omega) only[go_sem,if_yes,if_no,if_no];rfl)|(simp (disch:=omega) only[go_sem,if_yes,if_no,if_no]))),rfl,(by first|exact HOld.of _ (by omega)|exact HOld.put _ _ _ (by omega))⟩
end Go.Proofs.YtoafigpikgigaaaGreatDoor

namespace Go.Proofs.YtoafigpikgigaaaGreatDoor
open Go.Av Go.Txt Go.Lib
attribute [local irreducible] thenA blockA awp awpOps awpD awp1
attribute [local go_sem_proc] Nat.reduceAdd Nat.reduceMul Nat.reduceEqDiff Nat.reduceBEq Nat.reduceLeDiff
attribute [local go_sem_proc ↓] reduceIte
attribute [local go_sem] if_yes if_no
set_option maxHeartbeats 8000000
set_option maxRecDepth 20000
theorem strs_snoc (l:List (List UInt8)) (x:List UInt8):strs (l ++ [x])=strs l ++ [[.str x]]:=by unfold strs;rw [List.map_append];rfl
theorem drop_cut {s:List UInt8} {a i:Nat} (ha:a≤i) (hi:i < s.length):s.drop a=(s.drop a).take (i - a) ++ s.getD i 0 :: s.drop (i+1):=by
 have h1:s.drop a=(s.drop a).take (i - a) ++ (s.drop a).drop (i - a):=(List.take_append_drop _ _).symm
 rw [List.drop_drop,show a+(i - a)=i by omega,List.drop_eq_getElem_cons hi] at h1
 rw [List.getD_eq_getElem?_getD,List.getElem?_eq_getElem hi]
 exact h1
theorem take_cut {s:List UInt8} {a i:Nat} (ha:a≤i) (hi:i < s.length):(s.drop a).take (i+1 - a)=(s.drop a).take (i - a) ++ [s.getD i 0]:=by
 rw [show i+1 - a=(i - a)+1 by omega,List.take_add_one,List.getElem?_drop,show a+(i - a)=i by omega,List.getElem?_eq_getElem hi,List.getD_eq_getElem?_getD,List.getElem?_eq_getElem hi]
 rfl
structure SpS where
 i:Nat
 a:Nat
 v:AV
 ds:List (List UInt8)
 g:AH
theorem c41 (s:List UInt8) (by_:UInt8) (hs:s.length≤1000000):Pure Tryz.prog 41 [.str s,.int .u8 by_.toNat] (fun v=>v=.lst 1 (strs (splitL by_ s))):=by
 refine Pure.give Tryz.call41 fun h hold=>?_
 refine ACalls.of tab mixed Tryz.call41 Tryz.func41 rfl (fi:=⟨35,[],[30],none,[]⟩) rfl rfl (Nat.le_of_ble_eq_true rfl) (by decide) ?_
 unfold startA
 try simp only[go_sem]
 repeat' (first|refine st_seq_reg rfl (by first|(simp only[go_sem];rfl)|rfl) (by first|(simp only[go_sem];rfl)|rfl) ?_|refine st_op ?_|refine st_det rfl (by simp (disch:=omega) only[go_sem,wr_i64];rfl) ?_|refine st_nil ?_|refine st_seq ?_|refine st_block ?_)
 refine st_loopH (α:=SpS) tab mixed [] [] (by repeat (first|exact trivial|refine ⟨rfl,?_⟩)) [] [] (by repeat (first|exact trivial|refine ⟨rfl,?_⟩)) (fun a=>[(7,.int .i64 (a.i:Nat)),(6,.int .i64 (a.a:Nat)),(5,a.v)]) [(0,_),(1,_),(4,_)] (fun _=>[]) [] (fun a=>a.g) (fun a=>((a.i≤s.length∧a.a≤a.i∧a.ds ++ splitL by_ (s.drop a.a)=splitL by_ s∧by_ ∉ (s.drop a.a).take (a.i - a.a)) ∨ (a.i=s.length+1∧a.a≤s.length+1∧a.ds=splitL by_ s))∧a.ds.length≤a.i∧SlA h.clk a.g a.v 1 (strs a.ds)∧(∀ b':Bid,b'.1 < h.clk→a.g.at_ b'=h.at_ b')∧a.g.lp=h.lp∧h.clk≤a.g.clk) (fun a=>s.length+1 - a.i) (by decide) ⟨0,0,.nils,[],_⟩ (by exact ⟨.inl ⟨Nat.zero_le _,Nat.le_refl _,rfl,by simp⟩,Nat.zero_le _,.inl ⟨rfl,rfl⟩,fun _ _=>rfl,rfl,by (try simp only[go_sem]);omega⟩) (by (try simp only[go_sem]);repeat' (first|exact trivial|refine And.intro ?_ ?_|rfl|(simp (disch:=omega) only[go_sem,if_yes,if_no,if_no];rfl)|(simp (disch:=omega) only[go_sem,if_yes,if_no,if_no]))) (by (try simp only[go_sem]);repeat' (first|exact trivial|refine And.intro ?_ ?_|rfl|(simp (disch:=omega) only[go_sem,if_yes,if_no,if_no];rfl)|(simp (disch:=omega) only[go_sem,if_yes,if_no,if_no]))) (HOld.refl _) ?_
 rintro ⟨i,a,v,ds,g⟩ c ⟨hcase,hdl,hS,hat,hlp,hck⟩ hc
 dsimp only at hcase hdl hS hat hlp hck hc
 simp only[go_sem]
 have hnc:=hS.noL
 rcases hcase with ⟨hi,hai,hsp,hno⟩|⟨rfl,hal,rfl⟩
 case inr =>
  repeat' (first|refine st_seq_reg rfl (by first|(simp only[go_sem,hnc];rfl)|rfl) (by first|(simp only[go_sem,hnc];rfl)|rfl) ?_|refine st_op ?_|refine st_det rfl (by simp (disch:=omega) only[go_sem,wr_i64,hnc];rfl) ?_|refine st_gT rfl rfl rfl ?_|refine st_gF rfl rfl rfl ?_|(refine st_gS rfl rfl ?_ ?_ <;> intro hg <;> (try simp only[dcT,dcF,bnT,bnF] at hg))|refine st_condT rfl ?_|(refine st_condS rfl ?_ ?_ <;> intro hg <;> (try simp only[dcT,dcF,bnT,bnF] at hg))|refine st_nil ?_|refine st_tN ?_|refine st_seq ?_|refine st_block ?_|refine st_skip ?_|refine st_exit ?_|refine st_ret ?_|refine st_tE ?_|refine st_bH ?_)
  all_goals try (exfalso;omega)
  simp (disch:=omega) only[AEnd,Tryz.results41,aresK,fin,go_sem,implies_true,true_and,and_true,List.reverse_cons,List.reverse_nil]
  exact ⟨hnc,hat,hlp,SlA.ans (R:=fun v=>v=.lst 1 (strs (splitL by_ s))) hS rfl⟩
 by_cases hil:i < s.length
 case neg =>
  obtain rfl:i=s.length:=by omega
  have hpc:(s.drop a).take (s.length - a)=s.drop a:=List.take_of_length_le (by rw [List.length_drop];exact Nat.le_refl _)
  rw [hpc] at hno
  rw [splitL_none hno] at hsp
  repeat' (first|refine st_seq_reg rfl (by first|(simp only[go_sem,hnc,sL,hpc];rfl)|rfl) (by first|(simp only[go_sem,hnc,sL,hpc];rfl)|rfl) ?_|refine st_reg rfl (by first|(simp only[go_sem,hnc,sL,hpc];rfl)|rfl) (by first|(simp only[go_sem,hnc,sL,hpc];rfl)|rfl) ?_|refine st_op ?_|refine st_det rfl (by simp (disch:=omega) only[go_sem,wr_i64,hnc,sL,hpc];rfl) ?_|(refine st_appS (by intro h id x y;simp only[go_sem];rfl) rfl (by simp only[go_sem,hnc,sL,hpc];rfl) (by first|(simp only[go_sem,hnc,sL,hpc];rfl)|rfl) (by decide) hS (fun _ _ _=>rfl) (by omega) (by simp only[Lm,List.length_cons,List.length_nil,big,hnc,sL,hpc];omega) (by omega) (by omega) ?_;intro v' g' hA)|refine st_gF rfl rfl rfl ?_|refine st_condT rfl ?_|(refine st_condS rfl ?_ ?_ <;> intro hg <;> (try simp only[dcT,dcF,bnT,bnF] at hg))|refine st_nil ?_|refine st_tN ?_|refine st_seq ?_|refine st_block ?_|refine st_skip ?_|refine st_exit ?_|refine st_ret ?_|refine st_tE ?_|refine st_bN ?_|refine st_bH ?_)
  all_goals try (exfalso;omega)
  refine ⟨⟨s.length+1,s.length+1,v',ds ++ [s.drop a],_⟩,(by exact ⟨.inr ⟨rfl,Nat.le_refl _,hsp⟩,by simp;omega,by rw [strs_snoc];exact hA.sl.to (fun _ _ _ _ _=>rfl) (by (try simp only[go_sem]);omega),fun b' hb'=>(hA.old b' hb').trans (hat b' hb'),hA.lp.trans hlp,by (try simp only[go_sem]);omega⟩),(by show s.length+1 - (s.length+1) < s.length+1 - s.length;omega),(by repeat' (first|exact trivial|refine And.intro ?_ ?_|rfl|(simp (disch:=omega) only[go_sem,if_yes,if_no,if_no];rfl)|(simp (disch:=omega) only[go_sem,if_yes,if_no,if_no]))),(by repeat' (first|exact trivial|refine And.intro ?_ ?_|rfl|(simp (disch:=omega) only[go_sem,if_yes,if_no,if_no];rfl)|(simp (disch:=omega) only[go_sem,if_yes,if_no,if_no]))),rfl,HOld.refl _⟩
 by_cases hb:s.getD i 0=by_
 ·have hb':(s.getD i 0).toNat=by_.toNat:=by rw [hb]
  obtain ⟨q,hq⟩:∃ q,q=(s.drop a).take (i - a):=⟨_,rfl⟩
  have hcut:=drop_cut hai hil
  rw [hb,← hq] at hcut
  rw [← hq] at hno
  rw [hcut,splitL_app hno] at hsp
  repeat' (first|refine st_seq_reg rfl (by first|(simp only[go_sem,hnc,sL,idx9,Int.toNat_natCast,hb',← hq];rfl)|rfl) (by first|(simp only[go_sem,hnc,sL,idx9,Int.toNat_natCast,hb',← hq];rfl)|rfl) ?_|refine st_reg rfl (by first|(simp only[go_sem,hnc,sL,idx9,Int.toNat_natCast,hb',← hq];rfl)|rfl) (by first|(simp only[go_sem,hnc,sL,idx9,Int.toNat_natCast,hb',← hq];rfl)|rfl) ?_|refine st_op ?_|refine st_det rfl (by simp (disch:=omega) only[go_sem,wr_i64,hnc,sL,idx9,Int.toNat_natCast,hb',← hq];rfl) ?_|(refine st_appS (by intro h id x y;simp only[go_sem];rfl) rfl (by simp only[go_sem,hnc,sL,idx9,Int.toNat_natCast,hb',← hq];rfl) (by first|(simp only[go_sem,hnc,sL,idx9,Int.toNat_natCast,hb',← hq];rfl)|rfl) (by decide) hS (fun _ _ _=>rfl) (by omega) (by simp only[Lm,List.length_cons,List.length_nil,big,hnc,sL,idx9,Int.toNat_natCast,hb',← hq];omega) (by omega) (by omega) ?_;intro v' g' hA)|refine st_gT rfl rfl rfl ?_|refine st_gF rfl rfl rfl ?_|(refine st_gS rfl rfl ?_ ?_ <;> intro hg <;> (try simp only[dcT,dcF,bnT,bnF] at hg))|refine st_condT rfl ?_|(refine st_condS rfl ?_ ?_ <;> intro hg <;> (try simp only[dcT,dcF,bnT,bnF] at hg))|refine st_nil ?_|refine st_tN ?_|refine st_seq ?_|refine st_block ?_|refine st_skip ?_|refine st_exit ?_|refine st_ret ?_|refine st_tE ?_|refine st_bN ?_|refine st_bH ?_)
  all_goals try (exfalso;omega)
  refine ⟨⟨i+1,i+1,v',ds ++ [q],_⟩,(by exact ⟨.inl ⟨by show i+1≤s.length;omega,Nat.le_refl _,by rw [List.append_assoc];exact hsp,by simp⟩,by simp;omega,by rw [strs_snoc];exact hA.sl.to (fun _ _ _ _ _=>rfl) (by (try simp only[go_sem]);omega),fun b' hb'=>(hA.old b' hb').trans (hat b' hb'),hA.lp.trans hlp,by (try simp only[go_sem]);omega⟩),(by show s.length+1 - (i+1) < s.length+1 - i;omega),(by repeat' (first|exact trivial|refine And.intro ?_ ?_|rfl|(simp (disch:=omega) only[go_sem,if_yes,if_no,if_no];rfl)|(simp (disch:=omega) only[go_sem,if_yes,if_no,if_no]))),(by repeat' (first|exact trivial|refine And.intro ?_ ?_|rfl|(simp (disch:=omega) only[go_sem,if_yes,if_no,if_no];rfl)|(simp (disch:=omega) only[go_sem,if_yes,if_no,if_no]))),rfl,HOld.refl _⟩
 have hb':¬ (s.getD i 0).toNat=by_.toNat:=fun q=>hb (UInt8.toNat_inj.1 q)
 have hno2:by_ ∉ (s.drop a).take (i+1 - a):=by
  rw [take_cut hai hil]
  simp only[List.mem_append,List.mem_singleton,not_or]
  exact ⟨hno,fun e=>hb e.symm⟩
 repeat' (first|refine st_seq_reg rfl (by first|(simp only[go_sem,hnc,sL,idx9,Int.toNat_natCast];rfl)|rfl) (by first|(simp only[go_sem,hnc,sL,idx9,Int.toNat_natCast];rfl)|rfl) ?_|refine st_reg rfl (by first|(simp only[go_sem,hnc,sL,idx9,Int.toNat_natCast];rfl)|rfl) (by first|(simp only[go_sem,hnc,sL,idx9,Int.toNat_natCast];rfl)|rfl) ?_|refine st_op ?_|refine st_det rfl (by simp (disch:=omega) only[go_sem,wr_i64,hnc,sL,idx9,Int.toNat_natCast];rfl) ?_|refine st_gT rfl rfl rfl ?_|refine st_gF rfl rfl rfl ?_|(refine st_gS rfl rfl ?_ ?_ <;> intro hg <;> (try simp only[dcT,dcF,bnT,bnF] at hg))|refine st_condT rfl ?_|(refine st_condS rfl ?_ ?_ <;> intro hg <;> (try simp only[dcT,dcF,bnT,bnF] at hg))|refine st_nil ?_|refine st_tN ?_|refine st_seq ?_|refine st_block ?_|refine st_skip ?_|refine st_exit ?_|refine st_ret ?_|refine st_tE ?_|refine st_bN ?_|refine st_bH ?_)
 all_goals try (exfalso;omega)
 refine ⟨⟨i+1,a,v,ds,_⟩,(by exact ⟨.inl ⟨by show i+1≤s.length;omega,by show a≤i+1;omega,hsp,hno2⟩,by show ds.length≤i+1;omega,hS.to (fun _ _ _ _ _=>rfl) (by (try simp only[go_sem]);omega),hat,hlp,by (try simp only[go_sem]);omega⟩),(by show s.length+1 - (i+1) < s.length+1 - i;omega),(by repeat' (first|exact trivial|refine And.intro ?_ ?_|rfl|(simp (disch:=omega) only[go_sem,if_yes,if_no,if_no];rfl)|(simp (disch:=omega) only[go_sem,if_yes,if_no,if_no]))),(by repeat' (first|exact trivial|refine And.intro ?_ ?_|rfl|(simp (disch:=omega) only[go_sem,if_yes,if_no,if_no];rfl)|(simp (disch:=omega) only[go_sem,if_yes,if_no,if_no]))),rfl,HOld.refl _⟩
end Go.Proofs.YtoafigpikgigaaaGreatDoor

namespace Go.Proofs.YtoafigpikgigaaaGreatDoor
open Go.Av Go.Txt Go.Lib
attribute [local irreducible] thenA blockA awp awpOps awpD awp1
attribute [local go_sem_proc] Nat.reduceAdd Nat.reduceMul Nat.reduceEqDiff Nat.reduceBEq Nat.reduceLeDiff
attribute [local go_sem_proc ↓] reduceIte
attribute [local go_sem] if_yes if_no
set_option maxHeartbeats 8000000
set_option maxRecDepth 20000
theorem c42 (s:List UInt8) (hs:s.length≤1000000):Pure Tryz.prog 42 [.str s] (fun v=>v=parV 7 s):=by
 refine Pure.give Tryz.call42 fun h hold=>?_
 obtain ⟨w,ws,hw⟩:∃ w ws,splitL 32 s=w :: ws:=by
  cases e:splitL 32 s with
  | nil=>exact absurd e (splitL_ne _ _)
  | cons w ws=>exact ⟨w,ws,rfl⟩
 have hlen:=splitL_len 32 s
 rw [hw,List.length_cons] at hlen
 have k38:Pure Tryz.prog 41 [.str s,.int .u8 32] (fun v=>v=.lst 1 (strs (w :: ws))):=by have:=c41 s 32 hs;rwa [hw] at this
 have hg0:(strs (w :: ws)).getD (Int.toNat 0) []=[.str w]:=rfl
 have hbad:∀ i,i < ws.length→numP 7 (ws.getD i [])=none→numsP 7 ws=none:=by
  intro i hi hn
  have e:ws=ws.take (i+1) ++ ws.drop (i+1):=(List.take_append_drop _ _).symm
  rw [e]
  refine numsP_bad ?_
  rw [take_str hi,numsP_snoc,hn]
  cases numsP 7 (ws.take i) <;> rfl
 have hrow:∀ l,numsP 7 ws=some l→parV 7 s=.tup [.str w,.lst 1 (l.map iv),.bool true]:=by
  intro l hl
  unfold parV rowP;rw [hw];simp only[hl,Option.map_some]
 have hrow0:numsP 7 ws=none→parV 7 s=.tup [.str [],.lst 1 [],.bool false]:=by
  intro hl
  unfold parV rowP;rw [hw];simp only[hl,Option.map_none]
 refine ACalls.of tab mixed Tryz.call42 Tryz.func42 rfl (fi:=⟨36,[],[30],none,[]⟩) rfl rfl (Nat.le_of_ble_eq_true rfl) (by decide) ?_
 unfold startA
 try simp only[go_sem]
 repeat' (first|refine st_seq_reg rfl (by first|(simp only[go_sem,sL,List.length_cons,hg0];rfl)|rfl) (by first|(simp only[go_sem,sL,List.length_cons,hg0];rfl)|rfl) ?_|refine st_op ?_|refine st_det rfl (by simp (disch:=omega) only[go_sem,wr_i64,sL,List.length_cons,hg0];rfl) ?_|(refine st_pureE (by first|(simp (disch:=omega) only[go_sem,sL,List.length_cons,hg0];rfl)|rfl) rfl (k38) (by first|(simp only[go_sem,sL,List.length_cons,hg0];rfl)|rfl) (by intro n;first|(simp (disch:=omega) only[go_sem];rfl)|rfl) ?_;intro n hn)|refine st_nil ?_|refine st_seq ?_|refine st_block ?_)
 all_goals try (exfalso;omega)
 refine st_loopH (α:=PaS) tab mixed [] [] (by repeat (first|exact trivial|refine ⟨rfl,?_⟩)) [] [] (by repeat (first|exact trivial|refine ⟨rfl,?_⟩)) (fun a=>[(7,.int .i64 ((a.i+1:Nat):Int)),(6,a.v)]) [(2,_),(3,_),(4,_),(5,_)] (fun _=>[]) [] (fun a=>a.g) (fun a=>a.i≤ws.length∧numsP 7 (ws.take a.i)=some a.ns∧a.ns.length=a.i∧SlA h.clk a.g a.v 1 (a.ns.map iv)∧(∀ b':Bid,b'.1 < h.clk→a.g.at_ b'=h.at_ b')∧a.g.lp=h.lp∧h.clk≤a.g.clk) (fun a=>ws.length - a.i) (by decide) ⟨0,.nils,[],_⟩ (by exact ⟨Nat.zero_le _,rfl,rfl,.inl ⟨rfl,rfl⟩,fun _ _=>rfl,rfl,by (try simp only[go_sem]);omega⟩) (by (try simp only[go_sem]);repeat' (first|exact trivial|refine And.intro ?_ ?_|rfl|(simp (disch:=omega) only[go_sem,if_yes,if_no,if_no];rfl)|(simp (disch:=omega) only[go_sem,if_yes,if_no,if_no]))) (by (try simp only[go_sem]);repeat' (first|exact trivial|refine And.intro ?_ ?_|rfl|(simp (disch:=omega) only[go_sem,if_yes,if_no,if_no];rfl)|(simp (disch:=omega) only[go_sem,if_yes,if_no,if_no]))) (HOld.refl _) ?_
 rintro ⟨i,v,ns,g⟩ c ⟨hi,hns,hnl,hS,hat,hlp,hck⟩ hc
 dsimp only at hi hns hnl hS hat hlp hck hc
 simp only[go_sem]
 have hnc:=hS.noL
 by_cases hil:i < ws.length
 case neg =>
  obtain rfl:i=ws.length:=by omega
  rw [List.take_length] at hns
  repeat' (first|refine st_seq_reg rfl (by first|(simp only[go_sem,sL,List.length_cons,hnc,hg0];rfl)|rfl) (by first|(simp only[go_sem,sL,List.length_cons,hnc,hg0];rfl)|rfl) ?_|refine st_op ?_|refine st_det rfl (by simp (disch:=omega) only[go_sem,wr_i64,sL,List.length_cons,hnc,hg0];rfl) ?_|(refine st_condS rfl ?_ ?_ <;> intro hg <;> (try simp only[dcT,dcF,bnT,bnF] at hg))|refine st_nil ?_|refine st_tN ?_|refine st_seq ?_|refine st_block ?_|refine st_skip ?_|refine st_exit ?_|refine st_ret ?_|refine st_tE ?_|refine st_bH ?_)
  all_goals try (exfalso;omega)
  simp (disch:=omega) only[AEnd,Tryz.results42,aresK,fin,go_sem,implies_true,true_and,and_true,List.reverse_cons,List.reverse_nil]
  refine ⟨hnc,hat,hlp,?_⟩
  rw [hrow ns hns]
  exact SlA.ansT (R:=fun v=>v=.tup [.str w,.lst 1 (ns.map iv),.bool true]) [.str w] [.bool true] (fun _ _=>rfl) (fun _ _=>rfl) hS rfl
 obtain ⟨x,hx⟩:∃ x,x=ws.getD i []:=⟨_,rfl⟩
 have hxg:(strs (w :: ws)).getD (i+1) []=[.str x]:=by rw [strs_getD (by simp;omega),hx];rfl
 have k60:=c63 x
 cases hz:numP 7 x with
 | none =>
  rw [numV,hz] at k60
  repeat' (first|refine st_seq_reg rfl (by first|(simp only[go_sem,sL,List.length_cons,hnc,hxg,Int.toNat_natCast];rfl)|rfl) (by first|(simp only[go_sem,sL,List.length_cons,hnc,hxg,Int.toNat_natCast];rfl)|rfl) ?_|refine st_op ?_|refine st_det rfl (by simp (disch:=omega) only[go_sem,wr_i64,sL,List.length_cons,hnc,hxg,Int.toNat_natCast];rfl) ?_|(refine st_pureE (by first|(simp (disch:=omega) only[go_sem,sL,List.length_cons,hnc,hxg,Int.toNat_natCast];rfl)|rfl) rfl (k60) (by first|(simp only[go_sem,sL,List.length_cons,hnc,hxg,Int.toNat_natCast];rfl)|rfl) (by intro n;first|(simp (disch:=omega) only[go_sem];rfl)|rfl) ?_;intro n hn)|refine st_condT rfl ?_|(refine st_condS rfl ?_ ?_ <;> intro hg <;> (try simp only[dcT,dcF,bnT,bnF] at hg))|refine st_nil ?_|refine st_tN ?_|refine st_seq ?_|refine st_block ?_|refine st_skip ?_|refine st_exit ?_|refine st_ret ?_|refine st_tE ?_|refine st_tR ?_|refine st_bR ?_|refine st_bH ?_)
  all_goals try (exfalso;omega)
  simp (disch:=omega) only[AEnd,Tryz.results42,aresK,fin,go_sem,implies_true,true_and,and_true,List.reverse_cons,List.reverse_nil]
  exact ⟨hat,hlp,.inl ⟨_,VLe.tup (VLes.mid (pre:=[.str []]) (post:=[.bool false]) (VLe.nils 1)),(hrow0 (hbad i hil (hx ▸ hz))).symm⟩⟩
 | some z =>
  rw [numV,hz] at k60
  repeat' (first|refine st_seq_reg rfl (by first|(simp only[go_sem,sL,List.length_cons,hnc,hxg,Int.toNat_natCast];rfl)|rfl) (by first|(simp only[go_sem,sL,List.length_cons,hnc,hxg,Int.toNat_natCast];rfl)|rfl) ?_|refine st_reg rfl (by first|(simp only[go_sem,sL,List.length_cons,hnc,hxg,Int.toNat_natCast];rfl)|rfl) (by first|(simp only[go_sem,sL,List.length_cons,hnc,hxg,Int.toNat_natCast];rfl)|rfl) ?_|refine st_op ?_|refine st_det rfl (by simp (disch:=omega) only[go_sem,wr_i64,sL,List.length_cons,hnc,hxg,Int.toNat_natCast];rfl) ?_|(refine st_pureE (by first|(simp (disch:=omega) only[go_sem,sL,List.length_cons,hnc,hxg,Int.toNat_natCast];rfl)|rfl) rfl (k60) (by first|(simp only[go_sem,sL,List.length_cons,hnc,hxg,Int.toNat_natCast];rfl)|rfl) (by intro n;first|(simp (disch:=omega) only[go_sem];rfl)|rfl) ?_;intro n hn)|(refine st_appS (by intro h id x y;simp only[go_sem];rfl) rfl (by simp only[go_sem,sL,List.length_cons,hnc,hxg,Int.toNat_natCast];rfl) (by first|(simp only[go_sem,sL,List.length_cons,hnc,hxg,Int.toNat_natCast];rfl)|rfl) (by decide) hS (fun _ _ _=>rfl) (by omega) (by simp only[Lm,List.length_cons,List.length_nil,big,sL,List.length_cons,hnc,hxg,Int.toNat_natCast];omega) (by omega) (by omega) ?_;intro v' g' hA)|refine st_condF rfl ?_|(refine st_condS rfl ?_ ?_ <;> intro hg <;> (try simp only[dcT,dcF,bnT,bnF] at hg))|refine st_nil ?_|refine st_tN ?_|refine st_seq ?_|refine st_block ?_|refine st_skip ?_|refine st_exit ?_|refine st_ret ?_|refine st_tE ?_|refine st_bN ?_|refine st_bH ?_)
  all_goals try (exfalso;omega)
  have hns2:numsP 7 (ws.take (i+1))=some (ns ++ [(z:Int)]):=by
   rw [take_str hil,numsP_snoc,hns,← hx,hz]
  refine ⟨⟨i+1,v',ns ++ [(z:Int)],_⟩,(by exact ⟨by show i+1≤ws.length;omega,hns2,by simp [hnl],by rw [List.map_append];exact hA.sl.to (fun _ _ _ _ _=>rfl) (by (try simp only[go_sem]);omega),fun b' hb'=>(hA.old b' hb').trans (hat b' hb'),hA.lp.trans hlp,by (try simp only[go_sem]);omega⟩),(by show ws.length - (i+1) < ws.length - i;omega),(by repeat' (first|exact trivial|refine And.intro ?_ ?_|rfl|(simp (disch:=omega) only[go_sem,if_yes,if_no,if_no];rfl)|(simp (disch:=omega) only[go_sem,if_yes,if_no,if_no]))),(by repeat' (first|exact trivial|refine And.intro ?_ ?_|rfl|(simp (disch:=omega) only[go_sem,if_yes,if_no,if_no];rfl)|(simp (disch:=omega) only[go_sem,if_yes,if_no,if_no]))),rfl,HOld.refl _⟩
end Go.Proofs.YtoafigpikgigaaaGreatDoor
