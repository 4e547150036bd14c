/- Contracts of functions that the claim reaches: what each call gives, told in our own logic. Conditions: those of each theorem. -/
import Derived.Test.YtaijkalhkgjakaaGreatDoorG1
import Derived.Test.YtaijkalhkgjakaaGreatDoorP1
set_option linter.all false
set_option linter.unusedSimpArgs false
set_option linter.unusedVariables false
namespace Go.Proofs.YtaijkalhkgjakaaGreatDoor
open Go.Av
attribute [local irreducible] thenA blockA awp awpOps awpD awp1
attribute [local go_sem_proc] Nat.reduceAdd Nat.reduceMul Nat.reduceEqDiff Nat.reduceBEq Nat.reduceLeDiff
attribute [local go_sem_proc ↓] reduceIte
attribute [local go_sem] if_yes if_no
set_option maxHeartbeats 8000000
set_option maxRecDepth 20000
def gB:Nat→Option (List AV):=fun g=>if g=0 then some [.int .i64 0,.int .i64 1,.int .i64 2,.int .i64 4] else none
def ndI (s:Int):Int:=if s=1 then 1 else if s=2 then 2 else 4
theorem c73 (x:Jb) (hs:1≤x.s∧x.s≤3):PureG gB Tryz.prog 73 [.agg x.row] (fun v=>v=.int .i64 (ndI x.s)):=by
 intro h hgl
 have hg0:h.gl 0=some [.int .i64 0,.int .i64 1,.int .i64 2,.int .i64 4]:=by rw [hgl];rfl
 obtain ⟨f,s,d⟩:=x
 dsimp only at hs
 have hc:s=1 ∨ s=2 ∨ s=3:=by omega
 rcases hc with rfl|rfl|rfl
 all_goals
  refine ACalls.forget (ACalls.of tab mixed Tryz.call73 Tryz.func73 rfl (fi:=⟨7,[],[1],none,[]⟩) rfl rfl (Nat.le_of_ble_eq_true rfl) (by decide) ?_)
  unfold startA
  simp only[go_sem]
  repeat' (first|refine st_seq_reg rfl (by first|(simp only[go_sem,hg0];rfl)|rfl) (by first|(simp only[go_sem,hg0];rfl)|rfl) ?_|refine st_op ?_|refine st_det rfl (by simp (disch:=omega) only[go_sem,wr_i64,hg0];rfl) ?_|refine st_nil ?_|refine st_ret ?_)
  simp (disch:=omega) only[AEnd,Tryz.results73,aresK,fin,go_sem,implies_true,true_and,and_true,List.reverse_cons,List.reverse_nil]
  rfl
def jobE (j:Jb):Int:=if ¬ (0≤j.f∧j.f≤6) then 2 else if ¬ (1≤j.s∧j.s≤3) then 3 else if ¬ (1≤j.d∧j.d≤30) then 2 else 0
def jobsE:List Jb→Int
 | []=>0
 | j :: l=>if jobE j ≠ 0 then jobE j else jobsE l
def shopE (S:Sp):Int:=if S.ws.length=0 then 4 else if (S.ws.length:Int) > 4 then 5 else if (S.js.length:Int) > 7 then 5 else jobsE S.js
theorem drop_jb {l:List Jb} {i:Nat} (h:i < l.length):l.drop i=jOf l i :: l.drop (i+1):=by
 rw [List.drop_eq_getElem_cons h];simp [jOf,List.getD_eq_getElem?_getD,h]
theorem jobs_f {l:List Jb} {i:Nat} (hi:i < l.length) (hall:jobsE (l.drop i)=jobsE l) (h:¬ (0≤(jOf l i).f∧(jOf l i).f≤6)):jobsE l=2:=by
 have e:jobE (jOf l i)=2:=by unfold jobE;rw [if_pos h]
 rw [← hall,drop_jb hi,jobsE,e];rfl
theorem jobs_s {l:List Jb} {i:Nat} (hi:i < l.length) (hall:jobsE (l.drop i)=jobsE l) (h0:0≤(jOf l i).f∧(jOf l i).f≤6) (h:¬ (1≤(jOf l i).s∧(jOf l i).s≤3)):jobsE l=3:=by
 have e:jobE (jOf l i)=3:=by unfold jobE;rw [if_neg (by omega),if_pos h]
 rw [← hall,drop_jb hi,jobsE,e];rfl
theorem jobs_d {l:List Jb} {i:Nat} (hi:i < l.length) (hall:jobsE (l.drop i)=jobsE l) (h0:0≤(jOf l i).f∧(jOf l i).f≤6) (h1:1≤(jOf l i).s∧(jOf l i).s≤3) (h:¬ (1≤(jOf l i).d∧(jOf l i).d≤30)):jobsE l=2:=by
 have e:jobE (jOf l i)=2:=by unfold jobE;rw [if_neg (by omega),if_neg (by omega),if_pos h]
 rw [← hall,drop_jb hi,jobsE,e];rfl
theorem jobs_ok {l:List Jb} {i:Nat} (hi:i < l.length) (hall:jobsE (l.drop i)=jobsE l) (h0:0≤(jOf l i).f∧(jOf l i).f≤6) (h1:1≤(jOf l i).s∧(jOf l i).s≤3) (h:1≤(jOf l i).d∧(jOf l i).d≤30):jobsE (l.drop (i+1))=jobsE l:=by
 have e:jobE (jOf l i)=0:=by unfold jobE;rw [if_neg (by omega),if_neg (by omega),if_neg (by omega)]
 rw [← hall,drop_jb hi,jobsE,e];rfl
theorem shop_0 {S:Sp} (h:S.ws.length=0):shopE S=4:=by unfold shopE;rw [if_pos h]
theorem shop_4 {S:Sp} (h0:S.ws.length ≠ 0) (h:(S.ws.length:Int) > 4):shopE S=5:=by unfold shopE;rw [if_neg h0,if_pos h]
theorem shop_7 {S:Sp} (h0:S.ws.length ≠ 0) (h1:¬ (S.ws.length:Int) > 4) (h:(S.js.length:Int) > 7):shopE S=5:=by unfold shopE;rw [if_neg h0,if_neg h1,if_pos h]
theorem shop_in {S:Sp} (h0:S.ws.length ≠ 0) (h1:¬ (S.ws.length:Int) > 4) (h:¬ (S.js.length:Int) > 7):shopE S=jobsE S.js:=by unfold shopE;rw [if_neg h0,if_neg h1,if_neg h]
theorem c26 (S:Sp):Pure Tryz.prog 26 [S.av] (fun v=>v=.int .i64 (shopE S)):=by
 intro h
 refine ACalls.forget (ACalls.of tab mixed Tryz.call26 Tryz.func26 rfl (fi:=⟨45,[4],[1,29,35,41],none,[]⟩) rfl rfl (Nat.le_of_ble_eq_true rfl) (by decide) ?_)
 unfold startA
 simp only[go_sem]
 repeat' (first|refine st_seq_reg rfl (by first|(simp only[go_sem];rfl)|rfl) (by first|(simp only[go_sem];rfl)|rfl) ?_|refine st_reg rfl (by first|(simp only[go_sem];rfl)|rfl) (by first|(simp only[go_sem];rfl)|rfl) ?_|refine st_op ?_|refine st_det rfl (by simp (disch:=omega) only[go_sem,wr_i64];rfl) ?_|refine st_condT rfl ?_|(refine st_condS rfl ?_ ?_ <;> intro hg <;> (try simp only[dcT,dcF,bnT,bnF] at hg))|refine st_nil ?_|refine st_tN ?_|refine st_seq ?_|refine st_block ?_|refine st_skip ?_|refine st_ret ?_|refine st_tR ?_|refine st_bN ?_|refine st_bR ?_)
 case' refine_2.refine_2.refine_2 =>
  refine st_loopC (α:=Nat) tab mixed [] [] (by repeat (first|exact trivial|refine ⟨rfl,?_⟩)) [] [] (by repeat (first|exact trivial|refine ⟨rfl,?_⟩)) (fun i=>[(22,.int .i64 i)]) [(1,_),(2,_),(20,_),(21,_)] (fun _=>[]) [] (fun i=>i≤S.js.length∧jobsE (S.js.drop i)=jobsE S.js) (fun i=>S.js.length - i) (by decide) 0 ⟨by omega,rfl⟩ (by (try simp only[go_sem]);repeat' (first|exact trivial|refine And.intro ?_ ?_|rfl|(simp (disch:=omega) only[go_sem,if_yes,if_no,if_no];rfl)|(simp (disch:=omega) only[go_sem,if_yes,if_no,if_no]))) (by (try simp only[go_sem]);repeat' (first|exact trivial|refine And.intro ?_ ?_|rfl|(simp (disch:=omega) only[go_sem,if_yes,if_no,if_no];rfl)|(simp (disch:=omega) only[go_sem,if_yes,if_no,if_no]))) (by first|(simp only[go_sem];rfl)|rfl) (by intro n;simp only[go_sem];rfl) ?_
  rintro i c ⟨hi',hall⟩ hc
  simp only[go_sem]
  repeat' (first|refine st_seq_reg rfl (by first|(simp only[go_sem];rfl)|rfl) (by first|(simp only[go_sem];rfl)|rfl) ?_|refine st_reg rfl (by first|(simp only[go_sem];rfl)|rfl) (by first|(simp only[go_sem];rfl)|rfl) ?_|refine st_op ?_|refine st_det rfl (by simp (disch:=omega) only[go_sem,wr_i64];rfl) ?_|refine st_loc rfl (by simp (disch:=omega) only[go_sem,wr_i64];rfl) ?_|refine st_store (by simp (disch:=omega) only[go_sem,wr_i64];rfl) ?_|(refine st_pureE (by first|(simp (disch:=omega) only[go_sem];rfl)|rfl) rfl (c66a _ _ _) (by first|(simp only[go_sem];rfl)|rfl) (by intro n;first|(simp (disch:=omega) only[go_sem];rfl)|rfl) ?_;intro n hn)|(refine st_condS rfl ?_ ?_ <;> intro hg <;> (try simp only[dcT,dcF,bnT,bnF] at hg))|refine st_nil ?_|refine st_tN ?_|refine st_seq ?_|refine st_block ?_|refine st_skip ?_|refine st_exit ?_|refine st_ret ?_|refine st_tE ?_|refine st_tR ?_|refine st_bN ?_|refine st_bR ?_|refine st_bH ?_)
  ·simp (disch:=omega) only[AEnd,Tryz.results26,aresK,fin,go_sem,implies_true,true_and,and_true,List.reverse_cons,List.reverse_nil]
   rw [shop_in (by omega) (by omega) (by omega),jobs_f (by omega) hall (by omega)]
  ·simp (disch:=omega) only[AEnd,Tryz.results26,aresK,fin,go_sem,implies_true,true_and,and_true,List.reverse_cons,List.reverse_nil]
   rw [shop_in (by omega) (by omega) (by omega),jobs_s (by omega) hall (by omega) (by omega)]
  ·simp (disch:=omega) only[AEnd,Tryz.results26,aresK,fin,go_sem,implies_true,true_and,and_true,List.reverse_cons,List.reverse_nil]
   rw [shop_in (by omega) (by omega) (by omega),jobs_d (by omega) hall (by omega) (by omega) (by omega)]
  ·refine ⟨i+1,⟨by omega,jobs_ok (by omega) hall (by omega) (by omega) (by omega)⟩,by omega,(by repeat' (first|exact trivial|refine And.intro ?_ ?_|rfl|(simp (disch:=omega) only[go_sem,if_yes,if_no,if_no];rfl)|(simp (disch:=omega) only[go_sem,if_yes,if_no,if_no]))),(by repeat' (first|exact trivial|refine And.intro ?_ ?_|rfl|(simp (disch:=omega) only[go_sem,if_yes,if_no,if_no];rfl)|(simp (disch:=omega) only[go_sem,if_yes,if_no,if_no]))),rfl,(by first|exact HOld.of _ (by omega)|exact HOld.put _ _ _ (by omega))⟩
  ·simp (disch:=omega) only[AEnd,Tryz.results26,aresK,fin,go_sem,implies_true,true_and,and_true,List.reverse_cons,List.reverse_nil]
   rw [List.drop_eq_nil_of_le (by omega),jobsE] at hall
   rw [shop_in (by omega) (by omega) (by omega),← hall]
 all_goals
  simp (disch:=omega) only[AEnd,Tryz.results26,aresK,fin,go_sem,implies_true,true_and,and_true,List.reverse_cons,List.reverse_nil]
  first
  | rw [shop_0 (by omega)]
  | rw [shop_4 (by omega) (by omega)]
  | rw [shop_7 (by omega) (by omega) (by omega)]
end Go.Proofs.YtaijkalhkgjakaaGreatDoor

namespace Go.Proofs.YtaijkalhkgjakaaGreatDoor
open Go.Av Go.Txt Go.Lib
set_option maxRecDepth 20000
def gT:Nat→Option (List AV):=fun g=>if g=0 then some [.int .i64 0,.int .i64 1,.int .i64 2,.int .i64 4] else if g=1 then some powAV else none
theorem gBT:∀ i cs,gB i=some cs→gT i=some cs:=by
 intro i cs h
 unfold gB at h
 split at h
 ·rename_i e;subst e;cases h;rfl
 ·cases h
theorem c79 (n:Int) (h0:-9223372036854775808≤n) (h1:n≤9223372036854775807):PureG gT Tryz.prog 79 [.int .i64 n] (fun v=>v=.str (itoa n)) :=
 cItoa (ρ:=laysM171_ren) (g:=1) laysM171 Tryz.call79 rfl (by kernel_rfl) n h0 h1
abbrev BdZ:=Bd 139 5
theorem c78 {h0 h:AH} {l:Nat} {bs s:List UInt8} (hB:BdZ h0 h l bs) (hl:bs.length+s.length≤140737488355328) :
  ACalls Tryz.prog 78 [.gptr l 0,.str s] h (fun r h'=>r=.tup [.int .i64 s.length,.nilif]∧BdZ h0 h' l (bs ++ s)∧h'.at_=h.at_∧h'.clk=h.clk∧h'.gl=h.gl):=cWriteString wStr Tryz.call78 hB hl
theorem c80 {h0 h:AH} {l:Nat} {bs:List UInt8} (b:UInt8) (hB:BdZ h0 h l bs) (hl:bs.length+1≤140737488355328) :
  ACalls Tryz.prog 80 [.gptr l 0,.int .u8 b.toNat] h (fun r h'=>r=.nilif∧BdZ h0 h' l (bs ++ [b])∧h'.at_=h.at_∧h'.clk=h.clk∧h'.gl=h.gl):=cWriteByte wByte Tryz.call80 b hB hl
theorem c81 {h0 h:AH} {l:Nat} {bs:List UInt8} (hB:BdZ h0 h l bs) (hl:bs ≠ []) :
  ACalls Tryz.prog 81 [.gptr l 0] h (fun r h'=>r=.str bs∧(∀ i r,h0.lp i=some r→h'.lp i=some r)∧h'.at_=h.at_∧h'.clk=h.clk∧h'.gl=h.gl):=cString (ρ:=lays169_ren) lays169 Builder_Extra_169 Tryz.call81 hB hl
end Go.Proofs.YtaijkalhkgjakaaGreatDoor

namespace Go.Proofs.YtaijkalhkgjakaaGreatDoor
open Go.Av
attribute [local irreducible] thenA blockA awp awpOps awpD awp1
attribute [local go_sem_proc] Nat.reduceAdd Nat.reduceMul Nat.reduceEqDiff Nat.reduceBEq Nat.reduceLeDiff
attribute [local go_sem_proc ↓] reduceIte
attribute [local go_sem] if_yes if_no
set_option maxHeartbeats 8000000
set_option maxRecDepth 20000
def hurdlesE:List Hu→Int
 | []=>0
 | x :: l=>if hurdleE x ≠ 0 then hurdleE x else hurdlesE l
def routeE (l:List Hu):Int:=if (l.length:Int) > 40 then 5 else hurdlesE l
theorem c52 (r:List Hu):Pure Tryz.prog 52 [.lst 3 (r.map Hu.row)] (fun v=>v=.int .i64 (routeE r)):=by
 intro h
 refine ACalls.forget (ACalls.of tab mixed Tryz.call52 Tryz.func52 rfl (fi:=⟨21,[4],[],none,[]⟩) rfl rfl (Nat.le_of_ble_eq_true rfl) (by decide) ?_)
 unfold startA
 try simp only[go_sem]
 repeat' (first|refine st_seq_reg rfl (by first|(simp only[go_sem];rfl)|rfl) (by first|(simp only[go_sem];rfl)|rfl) ?_|refine st_op ?_|refine st_det rfl (by simp (disch:=omega) only[go_sem,wr_i64];rfl) ?_|(refine st_condS rfl ?_ ?_ <;> intro hg <;> (try simp only[dcT,dcF,bnT,bnF] at hg))|refine st_nil ?_|refine st_tN ?_|refine st_seq ?_|refine st_block ?_|refine st_skip ?_|refine st_ret ?_|refine st_tR ?_)
 ·simp (disch:=omega) only[AEnd,Tryz.results52,aresK,fin,go_sem,implies_true,true_and,and_true,List.reverse_cons,List.reverse_nil]
  simp [routeE] <;> omega
 refine st_loopC (α:=Nat) tab mixed [] [] (by repeat (first|exact trivial|refine ⟨rfl,?_⟩)) [] [] (by repeat (first|exact trivial|refine ⟨rfl,?_⟩)) (fun i=>[(11,.int .i64 i)]) [(0,_),(2,_),(9,_),(10,_)] (fun _=>[]) [] (fun i=>i≤r.length∧hurdlesE (r.drop i)=hurdlesE r) (fun i=>r.length - i) (by decide) 0 ⟨by omega,rfl⟩ (by (try simp only[go_sem]);repeat' (first|exact trivial|refine And.intro ?_ ?_|rfl|(simp (disch:=omega) only[go_sem,if_yes,if_no,if_no];rfl)|(simp (disch:=omega) only[go_sem,if_yes,if_no,if_no]))) (by (try simp only[go_sem]);repeat' (first|exact trivial|refine And.intro ?_ ?_|rfl|(simp (disch:=omega) only[go_sem,if_yes,if_no,if_no];rfl)|(simp (disch:=omega) only[go_sem,if_yes,if_no,if_no]))) (by first|(simp only[go_sem];rfl)|rfl) (by intro n;simp only[go_sem];rfl) ?_
 rintro i c ⟨hi',hall⟩ hc
 simp only[go_sem]
 repeat' (first|refine st_seq_reg rfl (by first|(simp only[go_sem];rfl)|rfl) (by first|(simp only[go_sem];rfl)|rfl) ?_|refine st_reg rfl (by first|(simp only[go_sem];rfl)|rfl) (by first|(simp only[go_sem];rfl)|rfl) ?_|refine st_op ?_|refine st_det rfl (by simp (disch:=omega) only[go_sem,wr_i64];rfl) ?_|refine st_loc rfl (by simp (disch:=omega) only[go_sem,wr_i64];rfl) ?_|refine st_store (by simp (disch:=omega) only[go_sem,wr_i64];rfl) ?_|(refine st_pureE (by first|(simp (disch:=omega) only[go_sem];rfl)|rfl) rfl (c90 (hu r i)) (by first|(simp only[go_sem];rfl)|rfl) (by intro n;first|(simp (disch:=omega) only[go_sem];rfl)|rfl) ?_;intro n hn)|(refine st_condS rfl ?_ ?_ <;> intro hg <;> (try simp only[dcT,dcF,bnT,bnF] at hg))|refine st_nil ?_|refine st_tN ?_|refine st_seq ?_|refine st_block ?_|refine st_skip ?_|refine st_exit ?_|refine st_ret ?_|refine st_tE ?_|refine st_tR ?_|refine st_bN ?_|refine st_bR ?_|refine st_bH ?_)
 ·simp (disch:=omega) only[AEnd,Tryz.results52,aresK,fin,go_sem,implies_true,true_and,and_true,List.reverse_cons,List.reverse_nil]
  rw [drop_hu (by omega)] at hall
  rw [hurdlesE,if_pos (by assumption)] at hall
  simp [routeE] <;> omega
 ·refine ⟨i+1,⟨by omega,by rw [drop_hu (by omega),hurdlesE,if_neg (by assumption)] at hall;exact hall⟩,by omega,(by repeat' (first|exact trivial|refine And.intro ?_ ?_|rfl|(simp (disch:=omega) only[go_sem,if_yes,if_no,if_no];rfl)|(simp (disch:=omega) only[go_sem,if_yes,if_no,if_no]))),(by repeat' (first|exact trivial|refine And.intro ?_ ?_|rfl|(simp (disch:=omega) only[go_sem,if_yes,if_no,if_no];rfl)|(simp (disch:=omega) only[go_sem,if_yes,if_no,if_no]))),rfl,(by first|exact HOld.of _ (by omega)|exact HOld.put _ _ _ (by omega))⟩
 ·simp (disch:=omega) only[AEnd,Tryz.results52,aresK,fin,go_sem,implies_true,true_and,and_true,List.reverse_cons,List.reverse_nil]
  rw [List.drop_eq_nil_of_le (by omega),hurdlesE] at hall
  simp [routeE] <;> omega
theorem c170 (es:List Int) (hl:(es.length:Int) < 1000000) (hb:∀ i≤es.length,-4611686018427387904≤(es.take i).sum∧(es.take i).sum≤4611686018427387904):Pure Tryz.prog 170 [.lst 1 (es.map iv)] (fun v=>v=.int .i64 es.sum):=by
 intro h
 refine ACalls.forget (ACalls.of tab mixed Tryz.call170 Tryz.func170 rfl (fi:=⟨17,[],[],none,[]⟩) rfl rfl (Nat.le_of_ble_eq_true rfl) (by decide) ?_)
 unfold startA
 repeat' (first|refine st_seq_reg rfl (by first|(simp only[go_sem];rfl)|rfl) (by first|(simp only[go_sem];rfl)|rfl) ?_|refine st_op ?_|refine st_det rfl (by simp (disch:=omega) only[go_sem,wr_i64];rfl) ?_|refine st_nil ?_|refine st_seq ?_|refine st_block ?_)
 refine st_loopC (α:=Nat) tab mixed [] [] (by repeat (first|exact trivial|refine ⟨rfl,?_⟩)) [] [] (by repeat (first|exact trivial|refine ⟨rfl,?_⟩)) (fun i=>[(8,.int .i64 i),(3,.int .i64 (es.take i).sum)]) [(2,_),(6,_),(7,_)] (fun _=>[]) [] (fun i=>i≤es.length) (fun i=>es.length - i) (by decide) 0 (by omega) (by (try simp only[go_sem]);repeat' (first|exact trivial|refine And.intro ?_ ?_|rfl|(simp (disch:=omega) only[go_sem,if_yes,if_no,if_no];rfl)|(simp (disch:=omega) only[go_sem,if_yes,if_no,if_no]))) (by (try simp only[go_sem]);repeat' (first|exact trivial|refine And.intro ?_ ?_|rfl|(simp (disch:=omega) only[go_sem,if_yes,if_no,if_no];rfl)|(simp (disch:=omega) only[go_sem,if_yes,if_no,if_no]))) (by first|(simp only[go_sem];rfl)|rfl) (by intro n;simp only[go_sem];rfl) ?_
 rintro i c hi' hc
 simp only[go_sem]
 have e:i < es.length→(es.take (i+1)).sum=(es.take i).sum+es.getD i 0:=fun h=>by
  rw [List.take_succ_eq_append_getElem h,List.sum_append,List.getD_eq_getElem?_getD,List.getElem?_eq_getElem h];simp
 have b1:=hb i hi'
 have b2:i < es.length→_:=fun h=>hb (i+1) h
 repeat' (first|refine st_seq_reg rfl (by first|(simp only[go_sem];rfl)|rfl) (by first|(simp only[go_sem];rfl)|rfl) ?_|refine st_reg rfl (by first|(simp only[go_sem];rfl)|rfl) (by first|(simp only[go_sem];rfl)|rfl) ?_|refine st_op ?_|refine st_det rfl (by simp (disch:=omega) only[go_sem,wr_i64];rfl) ?_|(refine st_condS rfl ?_ ?_ <;> intro hg <;> (try simp only[dcT,dcF,bnT,bnF] at hg))|refine st_nil ?_|refine st_tN ?_|refine st_seq ?_|refine st_block ?_|refine st_skip ?_|refine st_exit ?_|refine st_ret ?_|refine st_tE ?_|refine st_bN ?_|refine st_bH ?_)
 ·refine ⟨i+1,(by omega),by omega,(by (try (rw [e (by omega)]));repeat' (first|exact trivial|refine And.intro ?_ ?_|rfl|(simp (disch:=omega) only[go_sem,if_yes,if_no,if_no];rfl)|(simp (disch:=omega) only[go_sem,if_yes,if_no,if_no]))),(by (try (rw [e (by omega)]));repeat' (first|exact trivial|refine And.intro ?_ ?_|rfl|(simp (disch:=omega) only[go_sem,if_yes,if_no,if_no];rfl)|(simp (disch:=omega) only[go_sem,if_yes,if_no,if_no]))),rfl,(by first|exact HOld.of _ (by omega)|exact HOld.put _ _ _ (by omega))⟩
 ·rw [List.take_of_length_le (by omega)]
  simp (disch:=omega) only[AEnd,Tryz.results170,aresK,fin,go_sem,implies_true,true_and,and_true,List.reverse_cons,List.reverse_nil]
theorem sum2 (a b:Int) (ha:-2305843009213693952≤a∧a≤2305843009213693952) (hb:-2305843009213693952≤b∧b≤2305843009213693952):Pure Tryz.prog 170 [.lst 1 [[.int .i64 a],[.int .i64 b]]] (fun v=>v=.int .i64 (a+b)):=by
 have h:=c170 [a,b] (by simp) (by
  intro i hi
  rcases i with _|_|_|i
  ·simp
  ·simp;omega
  ·simp;omega
  ·simp at hi)
 simpa [iv] using h
end Go.Proofs.YtaijkalhkgjakaaGreatDoor

namespace Go.Proofs.YtaijkalhkgjakaaGreatDoor
open Go.Av
attribute [local irreducible] thenA blockA awp awpOps awpD awp1
attribute [local go_sem_proc] Nat.reduceAdd Nat.reduceMul Nat.reduceEqDiff Nat.reduceBEq Nat.reduceLeDiff
attribute [local go_sem_proc ↓] reduceIte
attribute [local go_sem] if_yes if_no
set_option maxHeartbeats 8000000
set_option maxRecDepth 20000
def wl (arm:Int→Int) (s:Int) (l:List Ld):Int:=s+(l.map fun x=>x.lo * arm x.at_).sum
def wh (arm:Int→Int) (s:Int) (l:List Ld):Int:=s+(l.map fun x=>x.hi * arm x.at_).sum
def LdOk (x:Ld):Prop:=0≤x.at_∧x.at_≤3000∧0≤x.lo∧x.lo≤x.hi∧x.hi≤100000
structure FlOk (f:Fl):Prop where
 len:1≤f.len∧f.len≤3000
 wid:1≤f.wid∧f.wid≤1000
 axles:0≤f.front∧f.front < f.rear∧f.rear≤f.len
 turn:0≤f.turn∧f.turn≤20000
 kilos:0≤f.kilos∧f.kilos≤100000
 mid:0≤f.mid∧f.mid≤f.len
 high:0≤f.high∧f.high≤2000
 loads:f.loads.length≤30∧∀ x ∈ f.loads,LdOk x
theorem ld_mem {l:List Ld} {i:Nat} (h:i < l.length):ld l i ∈ l:=by
 unfold ld;rw [List.getD_eq_getElem?_getD,List.getElem?_eq_getElem h];exact List.getElem_mem h
theorem hu_mem {l:List Hu} {i:Nat} (h:i < l.length):hu l i ∈ l:=by
 unfold hu;rw [List.getD_eq_getElem?_getD,List.getElem?_eq_getElem h];exact List.getElem_mem h
theorem mul_bd {k x K A:Int} (hk:0≤k∧k≤K) (hx:-A≤x∧x≤A):-(K * A)≤k * x∧k * x≤K * A:=by
 have hA:0≤A:=by omega
 have h1:=Int.mul_le_mul_of_nonneg_left hx.2 hk.1
 have h2:=Int.mul_le_mul_of_nonneg_left hx.1 hk.1
 have h3:=Int.mul_le_mul_of_nonneg_right hk.2 hA
 rw [Int.mul_neg] at h2
 omega
theorem c172 (a:Int):Pure Tryz.prog 172 [.int .i64 a] (fun v=>v=.int .i64 1):=by
 intro h
 refine ACalls.forget (ACalls.of tab mixed Tryz.call172 Tryz.func172 rfl (fi:=⟨3,[],[],none,[]⟩) rfl rfl (Nat.le_of_ble_eq_true rfl) (by decide) ?_)
 unfold startA
 repeat' (first|refine st_seq_reg rfl (by first|(simp only[go_sem];rfl)|rfl) (by first|(simp only[go_sem];rfl)|rfl) ?_|refine st_op ?_|refine st_det rfl (by simp (disch:=omega) only[go_sem,wr_i64];rfl) ?_|refine st_nil ?_|refine st_ret ?_)
 simp (disch:=omega) only[AEnd,Tryz.results172,aresK,fin,go_sem,implies_true,true_and,and_true,List.reverse_cons,List.reverse_nil]
theorem c146 (f:Fl) (p m a:Int) (ha:0≤a∧a≤3000) (hf:0≤f.rear∧f.rear≤3000):Pure Tryz.prog 146 [.int .i64 a,.iptr (Tk.av f p m).cells 0] (fun v=>v=.int .i64 (f.rear - a)):=by
 intro h
 refine ACalls.forget (ACalls.of tab mixed Tryz.call146 Tryz.func146 rfl (fi:=⟨9,[],[],none,[]⟩) rfl rfl (Nat.le_of_ble_eq_true rfl) (by decide) ?_)
 unfold startA
 simp only[go_sem]
 repeat' (first|refine st_seq_reg rfl (by first|(simp only[go_sem];rfl)|rfl) (by first|(simp only[go_sem];rfl)|rfl) ?_|refine st_op ?_|refine st_det rfl (by simp (disch:=omega) only[go_sem,wr_i64];rfl) ?_|refine st_nil ?_|refine st_ret ?_)
 simp (disch:=omega) only[AEnd,Tryz.results146,aresK,fin,go_sem,implies_true,true_and,and_true,List.reverse_cons,List.reverse_nil]
theorem c147 (f:Fl) (p m a:Int) (ha:0≤a∧a≤3000) (hf:0≤f.front∧f.front≤3000):Pure Tryz.prog 147 [.int .i64 a,.iptr (Tk.av f p m).cells 0] (fun v=>v=.int .i64 (a - f.front)):=by
 intro h
 refine ACalls.forget (ACalls.of tab mixed Tryz.call147 Tryz.func147 rfl (fi:=⟨9,[],[],none,[]⟩) rfl rfl (Nat.le_of_ble_eq_true rfl) (by decide) ?_)
 unfold startA
 simp only[go_sem]
 repeat' (first|refine st_seq_reg rfl (by first|(simp only[go_sem];rfl)|rfl) (by first|(simp only[go_sem];rfl)|rfl) ?_|refine st_op ?_|refine st_det rfl (by simp (disch:=omega) only[go_sem,wr_i64];rfl) ?_|refine st_nil ?_|refine st_ret ?_)
 simp (disch:=omega) only[AEnd,Tryz.results147,aresK,fin,go_sem,implies_true,true_and,and_true,List.reverse_cons,List.reverse_nil]
theorem c152 (f:Fl) (p m:Int) (hf:FlOk f):Pure Tryz.prog 152 [Tk.av f p m] (fun v=>v=.int .i64 (f.rear - f.front)):=by
 have:=hf.len;have:=hf.axles
 intro h
 refine ACalls.forget (ACalls.of tab mixed Tryz.call152 Tryz.func152 rfl (fi:=⟨10,[],[1],none,[]⟩) rfl rfl (Nat.le_of_ble_eq_true rfl) (by decide) ?_)
 unfold startA
 simp only[go_sem]
 repeat' (first|refine st_seq_reg rfl (by first|(simp only[go_sem];rfl)|rfl) (by first|(simp only[go_sem];rfl)|rfl) ?_|refine st_op ?_|refine st_det rfl (by simp (disch:=omega) only[go_sem,wr_i64];rfl) ?_|refine st_nil ?_|refine st_ret ?_)
 simp (disch:=omega) only[AEnd,Tryz.results152,aresK,fin,go_sem,implies_true,true_and,and_true,List.reverse_cons,List.reverse_nil]
theorem c121 (a b:Bool):Pure Tryz.prog 121 [.bool a,.bool b] (fun v=>v=.int .i64 (if a then 1 else if b then 3 else 2)):=by
 intro h
 refine ACalls.forget (ACalls.of tab mixed Tryz.call121 Tryz.func121 rfl (fi:=⟨9,[],[],none,[]⟩) rfl rfl (Nat.le_of_ble_eq_true rfl) (by decide) ?_)
 unfold startA
 repeat' (first|refine st_seq_reg rfl (by first|(simp only[go_sem];rfl)|rfl) (by first|(simp only[go_sem];rfl)|rfl) ?_|refine st_op ?_|refine st_det rfl (by simp (disch:=omega) only[go_sem,wr_i64];rfl) ?_|(refine st_condS rfl ?_ ?_ <;> intro hg <;> (try simp only[dcT,dcF,bnT,bnF] at hg))|refine st_nil ?_|refine st_tN ?_|refine st_seq ?_|refine st_block ?_|refine st_skip ?_|refine st_ret ?_|refine st_tR ?_|refine st_bN ?_|refine st_bR ?_)
 all_goals
  simp (disch:=omega) only[AEnd,Tryz.results121,aresK,fin,go_sem,implies_true,true_and,and_true,List.reverse_cons,List.reverse_nil]
  all_goals simp [*]
end Go.Proofs.YtaijkalhkgjakaaGreatDoor

namespace Go.Proofs.YtaijkalhkgjakaaGreatDoor
open Go.Av
attribute [local irreducible] thenA blockA awp awpOps awpD awp1
attribute [local go_sem_proc] Nat.reduceAdd Nat.reduceMul Nat.reduceEqDiff Nat.reduceBEq Nat.reduceLeDiff
attribute [local go_sem_proc ↓] reduceIte
attribute [local go_sem] if_yes if_no
set_option maxHeartbeats 8000000
set_option maxRecDepth 20000
theorem take_ld {α:Type} {l:List α} {i:Nat} (d:α) (h:i < l.length) (f:α→Int):((l.take (i+1)).map f).sum=((l.take i).map f).sum+f (l.getD i d):=by
 rw [List.take_succ_eq_append_getElem h,List.map_append,List.sum_append,List.getD_eq_getElem?_getD,List.getElem?_eq_getElem h];simp
@[go_sem] theorem wl_nil (arm:Int→Int) (s:Int):wl arm s []=s:=by simp [wl]
@[go_sem] theorem wh_nil (arm:Int→Int) (s:Int):wh arm s []=s:=by simp [wh]
theorem wl_step {arm:Int→Int} {s:Int} {l:List Ld} {i:Nat} (h:i < l.length):wl arm s (l.take (i+1))=wl arm s (l.take i)+(ld l i).lo * arm (ld l i).at_:=by
 unfold wl;rw [take_ld ⟨0,0,0,0,0,0,0⟩ h];unfold ld;omega
theorem wh_step {arm:Int→Int} {s:Int} {l:List Ld} {i:Nat} (h:i < l.length):wh arm s (l.take (i+1))=wh arm s (l.take i)+(ld l i).hi * arm (ld l i).at_:=by
 unfold wh;rw [take_ld ⟨0,0,0,0,0,0,0⟩ h];unfold ld;omega
theorem w_bd {arm:Int→Int} {s:Int} {l:List Ld} (hl:∀ x ∈ l,LdOk x) (hb:∀ a,0≤a→a≤3000→-3000≤arm a∧arm a≤3000):∀ i≤l.length,
  (s - 300000000 * i≤wl arm s (l.take i)∧wl arm s (l.take i)≤s+300000000 * i)∧(s - 300000000 * i≤wh arm s (l.take i)∧wh arm s (l.take i)≤s+300000000 * i):=by
 intro i
 induction i with
 | zero=>intro _;simp [wl,wh]
 | succ i ih =>
  intro hi
  have h0:=ih (by omega)
  rw [wl_step (by omega),wh_step (by omega)]
  have hx:=hl _ (ld_mem (l:=l) (i:=i) (by omega))
  unfold LdOk at hx
  have:=hb _ hx.1 hx.2.1
  have h1:=mul_bd (k:=(ld l i).lo) (K:=100000) (A:=3000) (by omega) this
  have h2:=mul_bd (k:=(ld l i).hi) (K:=100000) (A:=3000) (by omega) this
  omega
theorem c145 (f:Fl) (p m:Int) (g:FuncId) (cap:List AV) (arm:Int→Int) (hf:FlOk f) (hp:0≤p∧p≤3000) (hm:0≤m∧m≤100000)
  (ha:∀ a,0≤a→a≤3000→Pure Tryz.prog g (([] ++ [.int .i64 a]) ++ cap) (fun v=>v=.int .i64 (arm a))) (hb:∀ a,0≤a→a≤3000→-3000≤arm a∧arm a≤3000) :
  Pure Tryz.prog 145 [Tk.av f p m,.fn (.func g) [] cap] (fun v=>v=.agg [.int .i64 (wl arm (f.kilos * arm f.mid+m * arm p) f.loads),.int .i64 (wh arm (f.kilos * arm f.mid+m * arm p) f.loads)]):=by
 have h1:=hf.len;have h2:=hf.mid;have h3:=hf.kilos;have h4:=hf.loads.1
 have m1:=mul_bd h3 (hb f.mid (by omega) (by omega))
 have m2:=mul_bd hm (hb p (by omega) (by omega))
 have wb:=fun i hi=>w_bd (s:=f.kilos * arm f.mid+m * arm p) hf.loads.2 hb i hi
 have e1:∀ i,i < f.loads.length→_:=fun i h=>wl_step (arm:=arm) (s:=f.kilos * arm f.mid+m * arm p) h
 have e2:∀ i,i < f.loads.length→_:=fun i h=>wh_step (arm:=arm) (s:=f.kilos * arm f.mid+m * arm p) h
 intro h
 refine ACalls.forget (ACalls.of tab mixed Tryz.call145 Tryz.func145 rfl (fi:=⟨65,[4,6,8],[2,25,48,60],none,[(1,[0,1,3,0,0,16,48,120,255,0,512,0,0,4096,14584,32504,65535,131071,262143],[(0,false),(1,false),(2,true),(3,false),(4,false),(5,false),(6,true),(9,false),(10,true),(11,false),(12,false),(13,true),(7,false),(8,false),(14,false),(15,false),(16,false),(17,false),(18,false)]),(6,[0,1,0,4,12,0,0,64,224,508,1023,2047,0,4096,0,16384,49152,0,0,262144,921599,2084863,4194303,8388607,16777215,33554431],[(0,false),(1,true),(2,false),(3,false),(4,true),(5,false),(6,false),(7,true),(12,false),(13,true),(14,false),(15,false),(16,true),(17,false),(18,false),(19,true),(8,false),(9,false),(10,false),(11,false),(20,false),(21,false),(22,false),(23,false),(24,false),(25,false)])]⟩) rfl rfl (Nat.le_of_ble_eq_true rfl) (by decide) ?_)
 unfold startA
 simp only[go_sem]
 repeat' (first|refine st_seq_reg rfl (by first|(simp only[go_sem];rfl)|rfl) (by first|(simp only[go_sem];rfl)|rfl) ?_|refine st_seq_draw rfl (by first|(simp only[go_sem];rfl)|rfl) (by first|(simp only[go_sem];rfl)|rfl) ?_|refine st_op ?_|refine st_det rfl (by simp (disch:=omega) only[go_sem,wr_i64];rfl) ?_|refine st_dop rfl ?_|refine st_loc rfl (by simp (disch:=omega) only[go_sem,wr_i64];rfl) ?_|refine st_store (by simp (disch:=omega) only[go_sem,wr_i64];rfl) ?_|(refine st_pureV (by first|(simp only[go_sem];rfl)|rfl) (by first|(simp (disch:=omega) only[go_sem];rfl)|rfl) rfl (ha _ (by omega) (by omega)) (by first|(simp only[go_sem];rfl)|rfl) (by intro n;first|(simp (disch:=omega) only[go_sem];rfl)|rfl) ?_;intro v n hv hn;subst hv)|(refine st_pureE (by first|(simp (disch:=omega) only[go_sem];rfl)|rfl) rfl (sum2 _ _ (by omega) (by omega)) (by first|(simp only[go_sem];rfl)|rfl) (by intro n;first|(simp (disch:=omega) only[go_sem];rfl)|rfl) ?_;intro n hn)|refine st_nil ?_|refine st_dnil ?_|refine st_seq ?_|refine st_block ?_)
 refine st_loopC (α:=Nat) tab mixed [6] [_] (by repeat (first|exact trivial|refine ⟨rfl,?_⟩)) [4] [_] (by repeat (first|exact trivial|refine ⟨rfl,?_⟩)) (fun i=>[(34,.int .i64 i)]) [(1,_),(2,_),(4,_),(6,_),(32,_),(33,_)] (fun i=>[[.int .i64 (wl arm (f.kilos * arm f.mid+m * arm p) (f.loads.take i)),.int .i64 (wh arm (f.kilos * arm f.mid+m * arm p) (f.loads.take i))]]) [_] (fun i=>i≤f.loads.length) (fun i=>f.loads.length - i) (by decide) 0 (by omega) (by (try simp only[go_sem]);repeat' (first|exact trivial|refine And.intro ?_ ?_|rfl|(simp (disch:=omega) only[go_sem,if_yes,if_no,if_no];rfl)|(simp (disch:=omega) only[go_sem,if_yes,if_no,if_no]))) (by (try simp only[go_sem]);repeat' (first|exact trivial|refine And.intro ?_ ?_|rfl|(simp (disch:=omega) only[go_sem,if_yes,if_no,if_no];rfl)|(simp (disch:=omega) only[go_sem,if_yes,if_no,if_no]))) (by first|(simp only[go_sem];rfl)|rfl) (by intro n;simp only[go_sem];rfl) ?_
 rintro i c hi' hc
 simp only[go_sem]
 have w1:=wb i hi'
 have hx:i < f.loads.length→LdOk (ld f.loads i):=fun h=>hf.loads.2 _ (ld_mem h)
 have w2:i < f.loads.length→_:=fun h=>mul_bd (k:=(ld f.loads i).lo) (K:=100000) ⟨(hx h).2.2.1,by have:=hx h;unfold LdOk at this;omega⟩ (hb (ld f.loads i).at_ (hx h).1 (hx h).2.1)
 have w3:i < f.loads.length→_:=fun h=>mul_bd (k:=(ld f.loads i).hi) (K:=100000) ⟨(by have:=hx h;unfold LdOk at this;omega),(hx h).2.2.2.2⟩ (hb (ld f.loads i).at_ (hx h).1 (hx h).2.1)
 have w4:i < f.loads.length→0≤(ld f.loads i).at_∧(ld f.loads i).at_≤3000:=fun h=>⟨(hx h).1,(hx h).2.1⟩
 repeat' (first|refine st_seq_reg rfl (by first|(simp only[go_sem];rfl)|rfl) (by first|(simp only[go_sem];rfl)|rfl) ?_|refine st_reg rfl (by first|(simp only[go_sem];rfl)|rfl) (by first|(simp only[go_sem];rfl)|rfl) ?_|refine st_draw rfl (by first|(simp only[go_sem];rfl)|rfl) (by first|(simp only[go_sem];rfl)|rfl) ?_|refine st_op ?_|refine st_det rfl (by simp (disch:=omega) only[go_sem,wr_i64];rfl) ?_|refine st_dop rfl ?_|refine st_loc rfl (by simp (disch:=omega) only[go_sem,wr_i64];rfl) ?_|refine st_store (by simp (disch:=omega) only[go_sem,wr_i64];rfl) ?_|(refine st_pureV (by first|(simp only[go_sem];rfl)|rfl) (by first|(simp (disch:=omega) only[go_sem];rfl)|rfl) rfl (ha _ (by omega) (by omega)) (by first|(simp only[go_sem];rfl)|rfl) (by intro n;first|(simp (disch:=omega) only[go_sem];rfl)|rfl) ?_;intro v n hv hn;subst hv)|(refine st_pureE (by first|(simp (disch:=omega) only[go_sem];rfl)|rfl) rfl (sum2 _ _ (by omega) (by omega)) (by first|(simp only[go_sem];rfl)|rfl) (by intro n;first|(simp (disch:=omega) only[go_sem];rfl)|rfl) ?_;intro n hn)|(refine st_condS rfl ?_ ?_ <;> intro hg <;> (try simp only[dcT,dcF,bnT,bnF] at hg))|refine st_nil ?_|refine st_dnil ?_|refine st_tN ?_|refine st_seq ?_|refine st_block ?_|refine st_skip ?_|refine st_exit ?_|refine st_ret ?_|refine st_tE ?_|refine st_bN ?_|refine st_bH ?_)
 ·refine ⟨i+1,(by omega),by omega,(by (try (rw [e1 i (by omega),e2 i (by omega)]));repeat' (first|exact trivial|refine And.intro ?_ ?_|rfl|(simp (disch:=omega) only[go_sem,if_yes,if_no,if_no];rfl)|(simp (disch:=omega) only[go_sem,if_yes,if_no,if_no]))),(by (try (rw [e1 i (by omega),e2 i (by omega)]));repeat' (first|exact trivial|refine And.intro ?_ ?_|rfl|(simp (disch:=omega) only[go_sem,if_yes,if_no,if_no];rfl)|(simp (disch:=omega) only[go_sem,if_yes,if_no,if_no]))),rfl,(by first|exact HOld.of _ (by omega)|exact HOld.put _ _ _ (by omega))⟩
 ·rw [List.take_of_length_le (by omega)]
  simp (disch:=omega) only[AEnd,Tryz.results145,aresK,fin,go_sem,implies_true,true_and,and_true,List.reverse_cons,List.reverse_nil]
end Go.Proofs.YtaijkalhkgjakaaGreatDoor
