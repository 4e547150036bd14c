/- Contracts of functions that the claim reaches: what each call gives, told in our own logic. Conditions: those of each theorem. -/
import Derived.Test.YthpkmcjiobnpgaaGreatDoorF1
open Nat (reduceAdd reduceMul reduceEqDiff reduceLeDiff)
set_option linter.all false
set_option linter.unusedSimpArgs false
set_option linter.unusedVariables false
namespace Go.Proofs.YthpkmcjiobnpgaaGreatDoor
open Go.Av Go.Txt Go.Lib
set_option maxRecDepth 20000
def gT:Nat→Option (List AV):=fun g=>if g=0 then some powAV else if g=1 then some [.ani] else if g=2 then some [.ifc] else if g=3 then some [.ifc] else none
theorem c30 (n:Int) (h0:-9223372036854775808≤n) (h1:n≤9223372036854775807):PureG gT Tryz.prog 30 [.int .i64 n] (fun v=>v=.str (itoa n)) :=
  cItoa (ρ:=laysM171_ren) (g:=0) laysM171 Tryz.call30 rfl (by kernel_rfl) n h0 h1
theorem c62 (s:List UInt8) (hs:s.length≤281474976710656):PureG gT Tryz.prog 62 [.str s] (fun v=>v=atoiV s) :=
  cAtoi (ρ:=laysC172_ren) laysC172 Tryz.call62 rfl rfl s hs
theorem c36 (s:List UInt8) (b:UInt8) (hs:s.length < 4294967281):PureG gT Tryz.prog 36 [.str s,.str [b]] (fun v=>v=.lst 1 (strs (splitL b s))) :=
  cSplit (ρ:=lays146_ren) lays146 Tryz.call36 (by kernel_rfl) rfl s b hs
abbrev BdZ:=Bd 70 5
theorem c29 {h0 h:AH} {l:Nat} {bs s:List UInt8} (hB:BdZ h0 h l bs) (hl:bs.length+s.length≤140737488355328) :
    ACalls Tryz.prog 29 [.gptr l 0,.str s] h (fun r h'=>r=.tup [.int .i64 s.length,.nilif]∧BdZ h0 h' l (bs ++ s)∧h'.at_=h.at_∧h'.clk=h.clk∧h'.gl=h.gl):=cWriteString wStr Tryz.call29 hB hl
theorem c31 {h0 h:AH} {l:Nat} {bs:List UInt8} (b:UInt8) (hB:BdZ h0 h l bs) (hl:bs.length+1≤140737488355328) :
    ACalls Tryz.prog 31 [.gptr l 0,.int .u8 b.toNat] h (fun r h'=>r=.nilif∧BdZ h0 h' l (bs ++ [b])∧h'.at_=h.at_∧h'.clk=h.clk∧h'.gl=h.gl):=cWriteByte wByte Tryz.call31 b hB hl
theorem c32 {h0 h:AH} {l:Nat} {bs:List UInt8} (hB:BdZ h0 h l bs) (hl:bs ≠ []) :
    ACalls Tryz.prog 32 [.gptr l 0] h (fun r h'=>r=.str bs∧(∀ i r,h0.lp i=some r→h'.lp i=some r)∧h'.at_=h.at_∧h'.clk=h.clk∧h'.gl=h.gl):=cString (ρ:=lays169_ren) lays169 Builder_Extra_169 Tryz.call32 hB hl
end Go.Proofs.YthpkmcjiobnpgaaGreatDoor

namespace Go.Proofs.YthpkmcjiobnpgaaGreatDoor
open Go.Av
attribute [local irreducible] thenA blockA awp awpOps awpD awp1
set_option maxHeartbeats 4000000
set_option maxRecDepth 20000
theorem c49a (lo hi a:Int):Pure Tryz.prog 49 [.int .i64 lo,.int .i64 hi,.lst 1 [[.int .i64 a]]] (fun v=>v=.bool (decide (lo≤a∧a≤hi))):=by
  have h:=c49 lo hi [a] (by simp)
  have e:allIn lo hi [a]=decide (lo≤a∧a≤hi):=by simp [allIn]
  rw [e] at h;exact h
theorem c49b (lo hi a b:Int):Pure Tryz.prog 49 [.int .i64 lo,.int .i64 hi,.lst 1 [[.int .i64 a],[.int .i64 b]]] (fun v=>v=.bool (decide (lo≤a∧a≤hi∧lo≤b∧b≤hi))):=by
  have h:=c49 lo hi [a,b] (by simp)
  have e:allIn lo hi [a,b]=decide (lo≤a∧a≤hi∧lo≤b∧b≤hi):=by simp [allIn,Bool.decide_and,Bool.and_assoc]
  rw [e] at h;exact h
structure Ld where
  at_:Int
  lo:Int
  hi:Int
  tlo:Int
  thi:Int
  kind:Int
  watts:Int
def Ld.row (x:Ld):List AV:=[.int .i64 x.at_,.int .i64 x.lo,.int .i64 x.hi,.int .i64 x.tlo,.int .i64 x.thi,.int .i64 x.kind,.int .i64 x.watts]
@[go_sem] theorem Ld.row_eq (x:Ld):x.row=[.int .i64 x.at_,.int .i64 x.lo,.int .i64 x.hi,.int .i64 x.tlo,.int .i64 x.thi,.int .i64 x.kind,.int .i64 x.watts]:=rfl
structure Fl where
  len:Int
  wid:Int
  front:Int
  rear:Int
  turn:Int
  kilos:Int
  mid:Int
  high:Int
  loads:List Ld
def Fl.av (f:Fl):AV:=.agg [.int .i64 f.len,.int .i64 f.wid,.int .i64 f.front,.int .i64 f.rear,.int .i64 f.turn,.int .i64 f.kilos,.int .i64 f.mid,.int .i64 f.high,.lst 7 (f.loads.map Ld.row)]
@[go_sem] theorem Fl.av_eq (f:Fl):f.av=.agg [.int .i64 f.len,.int .i64 f.wid,.int .i64 f.front,.int .i64 f.rear,.int .i64 f.turn,.int .i64 f.kilos,.int .i64 f.mid,.int .i64 f.high,.lst 7 (f.loads.map Ld.row)]:=rfl
def Tk.av (f:Fl) (p m:Int):AV:=.agg [.int .i64 f.len,.int .i64 f.wid,.int .i64 f.front,.int .i64 f.rear,.int .i64 f.turn,.int .i64 f.kilos,.int .i64 f.mid,.int .i64 f.high,.lst 7 (f.loads.map Ld.row),.int .i64 p,.int .i64 m]
@[go_sem] theorem Tk.av_eq (f:Fl) (p m:Int):Tk.av f p m=.agg [.int .i64 f.len,.int .i64 f.wid,.int .i64 f.front,.int .i64 f.rear,.int .i64 f.turn,.int .i64 f.kilos,.int .i64 f.mid,.int .i64 f.high,.lst 7 (f.loads.map Ld.row),.int .i64 p,.int .i64 m]:=rfl
structure Hu where
  kind:Int
  a:Int
  b:Int
def Hu.row (x:Hu):List AV:=[.int .i64 x.kind,.int .i64 x.a,.int .i64 x.b]
@[go_sem] theorem Hu.row_eq (x:Hu):x.row=[.int .i64 x.kind,.int .i64 x.a,.int .i64 x.b]:=rfl
def Hu.av (x:Hu):AV:=.agg [.int .i64 x.kind,.int .i64 x.a,.int .i64 x.b]
@[go_sem] theorem Hu.av_eq (x:Hu):x.av=.agg [.int .i64 x.kind,.int .i64 x.a,.int .i64 x.b]:=rfl
def rav (l:List Hu):AV:=.lst 3 (l.map Hu.row)
@[go_sem] theorem rav_eq (l:List Hu):rav l=.lst 3 (l.map Hu.row):=rfl
def ld (l:List Ld) (i:Nat):Ld:=l.getD i ⟨0,0,0,0,0,0,0⟩
def hu (l:List Hu) (i:Nat):Hu:=l.getD i ⟨0,0,0⟩
@[go_sem] theorem lrow_getD {l:List Ld} {i:Nat} (h:i < l.length):(l.map Ld.row).getD i []=(ld l i).row:=by
  simp [List.getD_eq_getElem?_getD,h,ld]
@[go_sem] theorem hrow_getD {l:List Hu} {i:Nat} (h:i < l.length):(l.map Hu.row).getD i []=(hu l i).row:=by
  simp [List.getD_eq_getElem?_getD,h,hu]
theorem drop_ld {l:List Ld} {i:Nat} (h:i < l.length):l.drop i=ld l i :: l.drop (i+1):=drop_getD _ h
theorem drop_hu {l:List Hu} {i:Nat} (h:i < l.length):l.drop i=hu l i :: l.drop (i+1):=drop_getD _ h
def spanE (lo hi top:Int):Int:=if ¬ (0≤lo∧lo≤top∧0≤hi∧hi≤top) then 2 else if lo > hi then 9 else 0
theorem c72 (lo hi top:Int):Pure Tryz.prog 72 [.agg [.int .i64 lo,.int .i64 hi],.int .i64 top] (fun v=>v=.int .i64 (spanE lo hi top)):=by
  intro h
  refine ACalls.forget (ACalls.of tab mixed Tryz.call72 Tryz.func72 rfl (fi:=⟨20,[],[2,11],none,[]⟩) rfl rfl (Nat.le_of_ble_eq_true rfl) (by decide) ?_)
  unfold startA
  repeat' (first|refine st_seq_reg rfl (by first|(simp only[go_sem];rfl)|rfl) (by first|(simp only[go_sem];rfl)|rfl) ?_|refine st_op ?_|refine st_det rfl (by simp (disch:=omega) only[go_sem,wr_i64,if_yes,if_no,↓reduceIte,reduceAdd,reduceMul,reduceEqDiff,Nat.reduceBEq,reduceLeDiff];rfl) ?_|(refine st_pureE (by first|(simp (disch:=omega) only[go_sem];rfl)|rfl) rfl (c49b _ _ _ _) (by first|(simp only[go_sem];rfl)|rfl) (by intro n;first|(simp (disch:=omega) only[go_sem];rfl)|rfl) ?_;intro n hn)|(refine st_condS rfl ?_ ?_ <;> intro hg <;> (try simp only[decide_eq_true_eq,decide_eq_false_iff_not,Bool.not_eq_true',Bool.not_eq_false'] at hg))|refine st_nil ?_|refine st_tN ?_|refine st_seq ?_|refine st_block ?_|refine st_skip ?_|refine st_ret ?_|refine st_tR ?_|refine st_bN ?_|refine st_bR ?_)
  all_goals
    simp (disch:=omega) only[AEnd,Tryz.results72,aresK,fin,go_sem,↓reduceIte,reduceEqDiff,reduceAdd,reduceLeDiff,if_yes,if_no,implies_true,true_and,and_true,List.reverse_cons,List.reverse_nil]
    simp [spanE] <;> omega
def loadE (f:Fl) (x:Ld):Int :=
  if ¬ (f.front≤x.at_∧x.at_≤f.rear) then 2 else if spanE x.lo x.hi 100000 ≠ 0 then spanE x.lo x.hi 100000 else if spanE x.tlo x.thi 2000 ≠ 0 then spanE x.tlo x.thi 2000
  else if ¬ (1≤x.kind∧x.kind≤4) then 3 else if ¬ (0≤x.watts∧x.watts≤1000000) then 2 else if 0 < x.watts∧¬ (x.kind=2 ∨ x.kind=3) then 1 else 0
theorem c56 (f:Fl) (x:Ld):Pure Tryz.prog 56 [f.av,.agg x.row] (fun v=>v=.int .i64 (loadE f x)):=by
  intro h
  refine ACalls.forget (ACalls.of tab mixed Tryz.call56 Tryz.func56 rfl (fi:=⟨52,[],[2,3,14,41],none,[]⟩) rfl rfl (Nat.le_of_ble_eq_true rfl) (by decide) ?_)
  unfold startA
  simp only[go_sem]
  repeat' (first|refine st_seq_reg rfl (by first|(simp only[go_sem];rfl)|rfl) (by first|(simp only[go_sem];rfl)|rfl) ?_|refine st_reg rfl (by first|(simp only[go_sem];rfl)|rfl) (by first|(simp only[go_sem];rfl)|rfl) ?_|refine st_op ?_|refine st_det rfl (by simp (disch:=omega) only[go_sem,wr_i64,if_yes,if_no,↓reduceIte,reduceAdd,reduceMul,reduceEqDiff,Nat.reduceBEq,reduceLeDiff];rfl) ?_|(refine st_pureE (by first|(simp (disch:=omega) only[go_sem];rfl)|rfl) rfl (c49a _ _ _) (by first|(simp only[go_sem];rfl)|rfl) (by intro n;first|(simp (disch:=omega) only[go_sem];rfl)|rfl) ?_;intro n hn)|(refine st_pureE (by first|(simp (disch:=omega) only[go_sem];rfl)|rfl) rfl (c72 _ _ _) (by first|(simp only[go_sem];rfl)|rfl) (by intro n;first|(simp (disch:=omega) only[go_sem];rfl)|rfl) ?_;intro n hn)|refine st_gT rfl rfl rfl ?_|refine st_gF rfl rfl rfl ?_|(refine st_gS rfl rfl ?_ ?_ <;> intro hg <;> (try simp only[decide_eq_true_eq,decide_eq_false_iff_not,Bool.not_eq_true',Bool.not_eq_false'] at hg))|refine st_condT rfl ?_|refine st_condF rfl ?_|(refine st_condS rfl ?_ ?_ <;> intro hg <;> (try simp only[decide_eq_true_eq,decide_eq_false_iff_not,Bool.not_eq_true',Bool.not_eq_false'] at hg))|refine st_nil ?_|refine st_tN ?_|refine st_seq ?_|refine st_block ?_|refine st_skip ?_|refine st_exit ?_|refine st_ret ?_|refine st_tE ?_|refine st_tR ?_|refine st_bN ?_|refine st_bR ?_|refine st_bH ?_|refine st_bM rfl ?_)
  all_goals
    simp (disch:=omega) only[AEnd,Tryz.results56,aresK,fin,go_sem,↓reduceIte,reduceEqDiff,reduceAdd,reduceLeDiff,if_yes,if_no,implies_true,true_and,and_true,List.reverse_cons,List.reverse_nil]
    simp [loadE] <;> omega
def hurdleE (x:Hu):Int :=
  if x.kind=1 then (if ¬ (0≤x.a∧x.a≤20000∧0≤x.b∧x.b≤20000) then 2 else if x.a ≥ x.b then 9 else 0)
  else if x.kind=2 then (if ¬ (0≤x.a∧x.a≤2000) then 2 else if x.b ≠ 0 then 1 else 0)
  else if x.kind=3 then (if ¬ (0≤x.a∧x.a≤10000000∧0≤x.b∧x.b≤10000000) then 2 else 0) else 3
theorem c82 (x:Hu):Pure Tryz.prog 82 [x.av] (fun v=>v=.int .i64 (hurdleE x)):=by
  intro h
  refine ACalls.forget (ACalls.of tab mixed Tryz.call82 Tryz.func82 rfl (fi:=⟨42,[],[1,12,26,39],none,[]⟩) rfl rfl (Nat.le_of_ble_eq_true rfl) (by decide) ?_)
  unfold startA
  simp only[go_sem]
  repeat' (first|refine st_seq_reg rfl (by first|(simp only[go_sem];rfl)|rfl) (by first|(simp only[go_sem];rfl)|rfl) ?_|refine st_op ?_|refine st_det rfl (by simp (disch:=omega) only[go_sem,wr_i64,if_yes,if_no,↓reduceIte,reduceAdd,reduceMul,reduceEqDiff,Nat.reduceBEq,reduceLeDiff];rfl) ?_|(refine st_pureE (by first|(simp (disch:=omega) only[go_sem];rfl)|rfl) rfl (c49a _ _ _) (by first|(simp only[go_sem];rfl)|rfl) (by intro n;first|(simp (disch:=omega) only[go_sem];rfl)|rfl) ?_;intro n hn)|(refine st_pureE (by first|(simp (disch:=omega) only[go_sem];rfl)|rfl) rfl (c49b _ _ _ _) (by first|(simp only[go_sem];rfl)|rfl) (by intro n;first|(simp (disch:=omega) only[go_sem];rfl)|rfl) ?_;intro n hn)|(refine st_condS rfl ?_ ?_ <;> intro hg <;> (try simp only[decide_eq_true_eq,decide_eq_false_iff_not,Bool.not_eq_true',Bool.not_eq_false'] at hg))|refine st_nil ?_|refine st_tN ?_|refine st_seq ?_|refine st_block ?_|refine st_skip ?_|refine st_ret ?_|refine st_tR ?_|refine st_bN ?_|refine st_bR ?_)
  all_goals
    simp (disch:=omega) only[AEnd,Tryz.results82,aresK,fin,go_sem,↓reduceIte,reduceEqDiff,reduceAdd,reduceLeDiff,if_yes,if_no,implies_true,true_and,and_true,List.reverse_cons,List.reverse_nil]
    simp [hurdleE] <;> omega
end Go.Proofs.YthpkmcjiobnpgaaGreatDoor

namespace Go.Proofs.YthpkmcjiobnpgaaGreatDoor
open Go.Av
attribute [local irreducible] thenA blockA awp awpOps awpD awp1
set_option maxHeartbeats 8000000
set_option maxRecDepth 20000
def hurdlesE:List Hu→Int
  | []=>0
  | x :: l=>if hurdleE x ≠ 0 then hurdleE x else hurdlesE l
def routeE (l:List Hu):Int:=if (l.length:Int) > 40 then 5 else hurdlesE l
theorem c67 (r:List Hu):Pure Tryz.prog 67 [.lst 3 (r.map Hu.row)] (fun v=>v=.int .i64 (routeE r)):=by
  intro h
  refine ACalls.forget (ACalls.of tab mixed Tryz.call67 Tryz.func67 rfl (fi:=⟨21,[4],[],none,[]⟩) rfl rfl (Nat.le_of_ble_eq_true rfl) (by decide) ?_)
  unfold startA
  try simp only[go_sem]
  repeat' (first|refine st_seq_reg rfl (by first|(simp only[go_sem];rfl)|rfl) (by first|(simp only[go_sem];rfl)|rfl) ?_|refine st_op ?_|refine st_det rfl (by simp (disch:=omega) only[go_sem,wr_i64,if_yes,if_no,↓reduceIte,reduceAdd,reduceMul,reduceEqDiff,Nat.reduceBEq,reduceLeDiff];rfl) ?_|(refine st_condS rfl ?_ ?_ <;> intro hg <;> (try simp only[decide_eq_true_eq,decide_eq_false_iff_not,Bool.not_eq_true',Bool.not_eq_false'] at hg))|refine st_nil ?_|refine st_tN ?_|refine st_seq ?_|refine st_block ?_|refine st_skip ?_|refine st_ret ?_|refine st_tR ?_)
  · simp (disch:=omega) only[AEnd,Tryz.results67,aresK,fin,go_sem,↓reduceIte,reduceEqDiff,reduceAdd,reduceLeDiff,if_yes,if_no,implies_true,true_and,and_true,List.reverse_cons,List.reverse_nil]
    simp [routeE] <;> omega
  refine st_loopC (α:=Nat) tab mixed [] [] (by repeat (first|exact trivial|refine ⟨rfl,?_⟩)) [] [] (by repeat (first|exact trivial|refine ⟨rfl,?_⟩)) (fun i=>[(11,.int .i64 i)]) [(0,_),(2,_),(9,_),(10,_)] (fun _=>[]) [] (fun i=>i≤r.length∧hurdlesE (r.drop i)=hurdlesE r) (fun i=>r.length - i) (by decide) 0 ⟨by omega,rfl⟩ (by (try simp only[go_sem]);repeat' (first|exact trivial|refine And.intro ?_ ?_|rfl|(simp (disch:=omega) only[go_sem,if_yes,if_no,↓reduceIte,reduceAdd,reduceMul,reduceEqDiff,Nat.reduceBEq,reduceLeDiff];rfl)|(simp (disch:=omega) only[go_sem,if_yes,if_no,↓reduceIte,reduceAdd,reduceMul,reduceEqDiff,Nat.reduceBEq,reduceLeDiff]))) (by (try simp only[go_sem]);repeat' (first|exact trivial|refine And.intro ?_ ?_|rfl|(simp (disch:=omega) only[go_sem,if_yes,if_no,↓reduceIte,reduceAdd,reduceMul,reduceEqDiff,Nat.reduceBEq,reduceLeDiff];rfl)|(simp (disch:=omega) only[go_sem,if_yes,if_no,↓reduceIte,reduceAdd,reduceMul,reduceEqDiff,Nat.reduceBEq,reduceLeDiff]))) (by first|(simp only[go_sem];rfl)|rfl) (by intro n;simp only[go_sem];rfl) ?_
  rintro i c ⟨hi',hall⟩ hc
  simp only[go_sem]
  repeat' (first|refine st_seq_reg rfl (by first|(simp only[go_sem];rfl)|rfl) (by first|(simp only[go_sem];rfl)|rfl) ?_|refine st_reg rfl (by first|(simp only[go_sem];rfl)|rfl) (by first|(simp only[go_sem];rfl)|rfl) ?_|refine st_op ?_|refine st_det rfl (by simp (disch:=omega) only[go_sem,wr_i64,if_yes,if_no,↓reduceIte,reduceAdd,reduceMul,reduceEqDiff,Nat.reduceBEq,reduceLeDiff];rfl) ?_|refine st_loc rfl (by simp (disch:=omega) only[go_sem,wr_i64,if_yes,if_no,↓reduceIte,reduceAdd,reduceMul,reduceEqDiff,Nat.reduceBEq,reduceLeDiff];rfl) ?_|refine st_store (by simp (disch:=omega) only[go_sem,wr_i64,if_yes,if_no,↓reduceIte,reduceAdd,reduceMul,reduceEqDiff,Nat.reduceBEq,reduceLeDiff];rfl) ?_|(refine st_pureE (by first|(simp (disch:=omega) only[go_sem];rfl)|rfl) rfl (c82 (hu r i)) (by first|(simp only[go_sem];rfl)|rfl) (by intro n;first|(simp (disch:=omega) only[go_sem];rfl)|rfl) ?_;intro n hn)|(refine st_condS rfl ?_ ?_ <;> intro hg <;> (try simp only[decide_eq_true_eq,decide_eq_false_iff_not,Bool.not_eq_true',Bool.not_eq_false'] at hg))|refine st_nil ?_|refine st_tN ?_|refine st_seq ?_|refine st_block ?_|refine st_skip ?_|refine st_exit ?_|refine st_ret ?_|refine st_tE ?_|refine st_tR ?_|refine st_bN ?_|refine st_bR ?_|refine st_bH ?_)
  · simp (disch:=omega) only[AEnd,Tryz.results67,aresK,fin,go_sem,↓reduceIte,reduceEqDiff,reduceAdd,reduceLeDiff,if_yes,if_no,implies_true,true_and,and_true,List.reverse_cons,List.reverse_nil]
    rw [drop_hu (by omega)] at hall
    rw [hurdlesE,if_pos (by assumption)] at hall
    simp [routeE] <;> omega
  · refine ⟨i+1,⟨by omega,by rw [drop_hu (by omega),hurdlesE,if_neg (by assumption)] at hall;exact hall⟩,by omega,(by repeat' (first|exact trivial|refine And.intro ?_ ?_|rfl|(simp (disch:=omega) only[go_sem,if_yes,if_no,↓reduceIte,reduceAdd,reduceMul,reduceEqDiff,Nat.reduceBEq,reduceLeDiff];rfl)|(simp (disch:=omega) only[go_sem,if_yes,if_no,↓reduceIte,reduceAdd,reduceMul,reduceEqDiff,Nat.reduceBEq,reduceLeDiff]))),(by repeat' (first|exact trivial|refine And.intro ?_ ?_|rfl|(simp (disch:=omega) only[go_sem,if_yes,if_no,↓reduceIte,reduceAdd,reduceMul,reduceEqDiff,Nat.reduceBEq,reduceLeDiff];rfl)|(simp (disch:=omega) only[go_sem,if_yes,if_no,↓reduceIte,reduceAdd,reduceMul,reduceEqDiff,Nat.reduceBEq,reduceLeDiff]))),rfl,(by first|exact HOld.of _ (by omega)|exact HOld.put _ _ _ (by omega))⟩
  · simp (disch:=omega) only[AEnd,Tryz.results67,aresK,fin,go_sem,↓reduceIte,reduceEqDiff,reduceAdd,reduceLeDiff,if_yes,if_no,implies_true,true_and,and_true,List.reverse_cons,List.reverse_nil]
    rw [List.drop_eq_nil_of_le (by omega),hurdlesE] at hall
    simp [routeE] <;> omega
theorem c81 (es:List Int) (hl:(es.length:Int) < 1000000) (hb:∀ i≤es.length,-4611686018427387904≤(es.take i).sum∧(es.take i).sum≤4611686018427387904):Pure Tryz.prog 81 [.lst 1 (es.map iv)] (fun v=>v=.int .i64 es.sum):=by
  intro h
  refine ACalls.forget (ACalls.of tab mixed Tryz.call81 Tryz.func81 rfl (fi:=⟨17,[],[],none,[]⟩) rfl rfl (Nat.le_of_ble_eq_true rfl) (by decide) ?_)
  unfold startA
  repeat' (first|refine st_seq_reg rfl (by first|(simp only[go_sem];rfl)|rfl) (by first|(simp only[go_sem];rfl)|rfl) ?_|refine st_op ?_|refine st_det rfl (by simp (disch:=omega) only[go_sem,wr_i64,if_yes,if_no,↓reduceIte,reduceAdd,reduceMul,reduceEqDiff,Nat.reduceBEq,reduceLeDiff];rfl) ?_|refine st_nil ?_|refine st_seq ?_|refine st_block ?_)
  refine st_loopC (α:=Nat) tab mixed [] [] (by repeat (first|exact trivial|refine ⟨rfl,?_⟩)) [] [] (by repeat (first|exact trivial|refine ⟨rfl,?_⟩)) (fun i=>[(8,.int .i64 i),(3,.int .i64 (es.take i).sum)]) [(2,_),(6,_),(7,_)] (fun _=>[]) [] (fun i=>i≤es.length) (fun i=>es.length - i) (by decide) 0 (by omega) (by (try simp only[go_sem]);repeat' (first|exact trivial|refine And.intro ?_ ?_|rfl|(simp (disch:=omega) only[go_sem,if_yes,if_no,↓reduceIte,reduceAdd,reduceMul,reduceEqDiff,Nat.reduceBEq,reduceLeDiff];rfl)|(simp (disch:=omega) only[go_sem,if_yes,if_no,↓reduceIte,reduceAdd,reduceMul,reduceEqDiff,Nat.reduceBEq,reduceLeDiff]))) (by (try simp only[go_sem]);repeat' (first|exact trivial|refine And.intro ?_ ?_|rfl|(simp (disch:=omega) only[go_sem,if_yes,if_no,↓reduceIte,reduceAdd,reduceMul,reduceEqDiff,Nat.reduceBEq,reduceLeDiff];rfl)|(simp (disch:=omega) only[go_sem,if_yes,if_no,↓reduceIte,reduceAdd,reduceMul,reduceEqDiff,Nat.reduceBEq,reduceLeDiff]))) (by first|(simp only[go_sem];rfl)|rfl) (by intro n;simp only[go_sem];rfl) ?_
  rintro i c hi' hc
  simp only[go_sem]
  have e:i < es.length→(es.take (i+1)).sum=(es.take i).sum+es.getD i 0:=fun h=>by
    rw [List.take_succ_eq_append_getElem h,List.sum_append,List.getD_eq_getElem?_getD,List.getElem?_eq_getElem h];simp
  have b1:=hb i hi'
  have b2:i < es.length→_:=fun h=>hb (i+1) h
  repeat' (first|refine st_seq_reg rfl (by first|(simp only[go_sem];rfl)|rfl) (by first|(simp only[go_sem];rfl)|rfl) ?_|refine st_reg rfl (by first|(simp only[go_sem];rfl)|rfl) (by first|(simp only[go_sem];rfl)|rfl) ?_|refine st_op ?_|refine st_det rfl (by simp (disch:=omega) only[go_sem,wr_i64,if_yes,if_no,↓reduceIte,reduceAdd,reduceMul,reduceEqDiff,Nat.reduceBEq,reduceLeDiff];rfl) ?_|(refine st_condS rfl ?_ ?_ <;> intro hg <;> (try simp only[decide_eq_true_eq,decide_eq_false_iff_not,Bool.not_eq_true',Bool.not_eq_false'] at hg))|refine st_nil ?_|refine st_tN ?_|refine st_seq ?_|refine st_block ?_|refine st_skip ?_|refine st_exit ?_|refine st_ret ?_|refine st_tE ?_|refine st_bN ?_|refine st_bH ?_)
  · refine ⟨i+1,(by omega),by omega,(by (try (rw [e (by omega)]));repeat' (first|exact trivial|refine And.intro ?_ ?_|rfl|(simp (disch:=omega) only[go_sem,if_yes,if_no,↓reduceIte,reduceAdd,reduceMul,reduceEqDiff,Nat.reduceBEq,reduceLeDiff];rfl)|(simp (disch:=omega) only[go_sem,if_yes,if_no,↓reduceIte,reduceAdd,reduceMul,reduceEqDiff,Nat.reduceBEq,reduceLeDiff]))),(by (try (rw [e (by omega)]));repeat' (first|exact trivial|refine And.intro ?_ ?_|rfl|(simp (disch:=omega) only[go_sem,if_yes,if_no,↓reduceIte,reduceAdd,reduceMul,reduceEqDiff,Nat.reduceBEq,reduceLeDiff];rfl)|(simp (disch:=omega) only[go_sem,if_yes,if_no,↓reduceIte,reduceAdd,reduceMul,reduceEqDiff,Nat.reduceBEq,reduceLeDiff]))),rfl,(by first|exact HOld.of _ (by omega)|exact HOld.put _ _ _ (by omega))⟩
  · rw [List.take_of_length_le (by omega)]
    simp (disch:=omega) only[AEnd,Tryz.results81,aresK,fin,go_sem,↓reduceIte,reduceEqDiff,reduceAdd,reduceLeDiff,if_yes,if_no,implies_true,true_and,and_true,List.reverse_cons,List.reverse_nil]
theorem sum2 (a b:Int) (ha:-2305843009213693952≤a∧a≤2305843009213693952) (hb:-2305843009213693952≤b∧b≤2305843009213693952):Pure Tryz.prog 81 [.lst 1 [[.int .i64 a],[.int .i64 b]]] (fun v=>v=.int .i64 (a+b)):=by
  have h:=c81 [a,b] (by simp) (by
    intro i hi
    rcases i with _|_|_|i
    · simp
    · simp;omega
    · simp;omega
    · simp at hi)
  simpa [iv] using h
def wl (arm:Int→Int) (s:Int) (l:List Ld):Int:=s+(l.map fun x=>x.lo * arm x.at_).sum
def wh (arm:Int→Int) (s:Int) (l:List Ld):Int:=s+(l.map fun x=>x.hi * arm x.at_).sum
def LdOk (x:Ld):Prop:=0≤x.at_∧x.at_≤3000∧0≤x.lo∧x.lo≤x.hi∧x.hi≤100000
structure FlOk (f:Fl):Prop where
  len:1≤f.len∧f.len≤3000
  wid:1≤f.wid∧f.wid≤1000
  axles:0≤f.front∧f.front < f.rear∧f.rear≤f.len
  turn:0≤f.turn∧f.turn≤20000
  kilos:0≤f.kilos∧f.kilos≤100000
  mid:0≤f.mid∧f.mid≤f.len
  high:0≤f.high∧f.high≤2000
  loads:f.loads.length≤30∧∀ x ∈ f.loads,LdOk x
theorem ld_mem {l:List Ld} {i:Nat} (h:i < l.length):ld l i ∈ l:=by
  unfold ld;rw [List.getD_eq_getElem?_getD,List.getElem?_eq_getElem h];exact List.getElem_mem h
theorem hu_mem {l:List Hu} {i:Nat} (h:i < l.length):hu l i ∈ l:=by
  unfold hu;rw [List.getD_eq_getElem?_getD,List.getElem?_eq_getElem h];exact List.getElem_mem h
theorem mul_bd {k x K A:Int} (hk:0≤k∧k≤K) (hx:-A≤x∧x≤A):-(K * A)≤k * x∧k * x≤K * A:=by
  have hA:0≤A:=by omega
  have h1:=Int.mul_le_mul_of_nonneg_left hx.2 hk.1
  have h2:=Int.mul_le_mul_of_nonneg_left hx.1 hk.1
  have h3:=Int.mul_le_mul_of_nonneg_right hk.2 hA
  rw [Int.mul_neg] at h2
  omega
theorem c101 (a:Int):Pure Tryz.prog 101 [.int .i64 a] (fun v=>v=.int .i64 1):=by
  intro h
  refine ACalls.forget (ACalls.of tab mixed Tryz.call101 Tryz.func101 rfl (fi:=⟨3,[],[],none,[]⟩) rfl rfl (Nat.le_of_ble_eq_true rfl) (by decide) ?_)
  unfold startA
  repeat' (first|refine st_seq_reg rfl (by first|(simp only[go_sem];rfl)|rfl) (by first|(simp only[go_sem];rfl)|rfl) ?_|refine st_op ?_|refine st_det rfl (by simp (disch:=omega) only[go_sem,wr_i64,if_yes,if_no,↓reduceIte,reduceAdd,reduceMul,reduceEqDiff,Nat.reduceBEq,reduceLeDiff];rfl) ?_|refine st_nil ?_|refine st_ret ?_)
  simp (disch:=omega) only[AEnd,Tryz.results101,aresK,fin,go_sem,↓reduceIte,reduceEqDiff,reduceAdd,reduceLeDiff,if_yes,if_no,implies_true,true_and,and_true,List.reverse_cons,List.reverse_nil]
theorem c65 (f:Fl) (p m a:Int) (ha:0≤a∧a≤3000) (hf:0≤f.rear∧f.rear≤3000):Pure Tryz.prog 65 [.int .i64 a,.iptr (Tk.av f p m).cells 0] (fun v=>v=.int .i64 (f.rear - a)):=by
  intro h
  refine ACalls.forget (ACalls.of tab mixed Tryz.call65 Tryz.func65 rfl (fi:=⟨9,[],[],none,[]⟩) rfl rfl (Nat.le_of_ble_eq_true rfl) (by decide) ?_)
  unfold startA
  simp only[go_sem]
  repeat' (first|refine st_seq_reg rfl (by first|(simp only[go_sem];rfl)|rfl) (by first|(simp only[go_sem];rfl)|rfl) ?_|refine st_op ?_|refine st_det rfl (by simp (disch:=omega) only[go_sem,wr_i64,if_yes,if_no,↓reduceIte,reduceAdd,reduceMul,reduceEqDiff,Nat.reduceBEq,reduceLeDiff];rfl) ?_|refine st_nil ?_|refine st_ret ?_)
  simp (disch:=omega) only[AEnd,Tryz.results65,aresK,fin,go_sem,↓reduceIte,reduceEqDiff,reduceAdd,reduceLeDiff,if_yes,if_no,implies_true,true_and,and_true,List.reverse_cons,List.reverse_nil]
theorem c66 (f:Fl) (p m a:Int) (ha:0≤a∧a≤3000) (hf:0≤f.front∧f.front≤3000):Pure Tryz.prog 66 [.int .i64 a,.iptr (Tk.av f p m).cells 0] (fun v=>v=.int .i64 (a - f.front)):=by
  intro h
  refine ACalls.forget (ACalls.of tab mixed Tryz.call66 Tryz.func66 rfl (fi:=⟨9,[],[],none,[]⟩) rfl rfl (Nat.le_of_ble_eq_true rfl) (by decide) ?_)
  unfold startA
  simp only[go_sem]
  repeat' (first|refine st_seq_reg rfl (by first|(simp only[go_sem];rfl)|rfl) (by first|(simp only[go_sem];rfl)|rfl) ?_|refine st_op ?_|refine st_det rfl (by simp (disch:=omega) only[go_sem,wr_i64,if_yes,if_no,↓reduceIte,reduceAdd,reduceMul,reduceEqDiff,Nat.reduceBEq,reduceLeDiff];rfl) ?_|refine st_nil ?_|refine st_ret ?_)
  simp (disch:=omega) only[AEnd,Tryz.results66,aresK,fin,go_sem,↓reduceIte,reduceEqDiff,reduceAdd,reduceLeDiff,if_yes,if_no,implies_true,true_and,and_true,List.reverse_cons,List.reverse_nil]
theorem c42 (f:Fl) (p m:Int) (hf:FlOk f):Pure Tryz.prog 42 [Tk.av f p m] (fun v=>v=.int .i64 (f.rear - f.front)):=by
  have:=hf.len;have:=hf.axles
  intro h
  refine ACalls.forget (ACalls.of tab mixed Tryz.call42 Tryz.func42 rfl (fi:=⟨10,[],[1],none,[]⟩) rfl rfl (Nat.le_of_ble_eq_true rfl) (by decide) ?_)
  unfold startA
  simp only[go_sem]
  repeat' (first|refine st_seq_reg rfl (by first|(simp only[go_sem];rfl)|rfl) (by first|(simp only[go_sem];rfl)|rfl) ?_|refine st_op ?_|refine st_det rfl (by simp (disch:=omega) only[go_sem,wr_i64,if_yes,if_no,↓reduceIte,reduceAdd,reduceMul,reduceEqDiff,Nat.reduceBEq,reduceLeDiff];rfl) ?_|refine st_nil ?_|refine st_ret ?_)
  simp (disch:=omega) only[AEnd,Tryz.results42,aresK,fin,go_sem,↓reduceIte,reduceEqDiff,reduceAdd,reduceLeDiff,if_yes,if_no,implies_true,true_and,and_true,List.reverse_cons,List.reverse_nil]
theorem c71 (a b:Bool):Pure Tryz.prog 71 [.bool a,.bool b] (fun v=>v=.int .i64 (if a then 1 else if b then 3 else 2)):=by
  intro h
  refine ACalls.forget (ACalls.of tab mixed Tryz.call71 Tryz.func71 rfl (fi:=⟨9,[],[],none,[]⟩) rfl rfl (Nat.le_of_ble_eq_true rfl) (by decide) ?_)
  unfold startA
  repeat' (first|refine st_seq_reg rfl (by first|(simp only[go_sem];rfl)|rfl) (by first|(simp only[go_sem];rfl)|rfl) ?_|refine st_op ?_|refine st_det rfl (by simp (disch:=omega) only[go_sem,wr_i64,if_yes,if_no,↓reduceIte,reduceAdd,reduceMul,reduceEqDiff,Nat.reduceBEq,reduceLeDiff];rfl) ?_|(refine st_condS rfl ?_ ?_ <;> intro hg <;> (try simp only[decide_eq_true_eq,decide_eq_false_iff_not,Bool.not_eq_true',Bool.not_eq_false'] at hg))|refine st_nil ?_|refine st_tN ?_|refine st_seq ?_|refine st_block ?_|refine st_skip ?_|refine st_ret ?_|refine st_tR ?_|refine st_bN ?_|refine st_bR ?_)
  all_goals
    simp (disch:=omega) only[AEnd,Tryz.results71,aresK,fin,go_sem,↓reduceIte,reduceEqDiff,reduceAdd,reduceLeDiff,if_yes,if_no,implies_true,true_and,and_true,List.reverse_cons,List.reverse_nil]
    all_goals simp [*]
theorem take_ld {α:Type} {l:List α} {i:Nat} (d:α) (h:i < l.length) (f:α→Int):((l.take (i+1)).map f).sum=((l.take i).map f).sum+f (l.getD i d):=by
  rw [List.take_succ_eq_append_getElem h,List.map_append,List.sum_append,List.getD_eq_getElem?_getD,List.getElem?_eq_getElem h];simp
@[go_sem] theorem wl_nil (arm:Int→Int) (s:Int):wl arm s []=s:=by simp [wl]
@[go_sem] theorem wh_nil (arm:Int→Int) (s:Int):wh arm s []=s:=by simp [wh]
theorem wl_step {arm:Int→Int} {s:Int} {l:List Ld} {i:Nat} (h:i < l.length):wl arm s (l.take (i+1))=wl arm s (l.take i)+(ld l i).lo * arm (ld l i).at_:=by
  unfold wl;rw [take_ld ⟨0,0,0,0,0,0,0⟩ h];unfold ld;omega
theorem wh_step {arm:Int→Int} {s:Int} {l:List Ld} {i:Nat} (h:i < l.length):wh arm s (l.take (i+1))=wh arm s (l.take i)+(ld l i).hi * arm (ld l i).at_:=by
  unfold wh;rw [take_ld ⟨0,0,0,0,0,0,0⟩ h];unfold ld;omega
theorem w_bd {arm:Int→Int} {s:Int} {l:List Ld} (hl:∀ x ∈ l,LdOk x) (hb:∀ a,0≤a→a≤3000→-3000≤arm a∧arm a≤3000):∀ i≤l.length,
    (s - 300000000 * i≤wl arm s (l.take i)∧wl arm s (l.take i)≤s+300000000 * i)∧(s - 300000000 * i≤wh arm s (l.take i)∧wh arm s (l.take i)≤s+300000000 * i):=by
  intro i
  induction i with
  | zero=>intro _;simp [wl,wh]
  | succ i ih =>
    intro hi
    have h0:=ih (by omega)
    rw [wl_step (by omega),wh_step (by omega)]
    have hx:=hl _ (ld_mem (l:=l) (i:=i) (by omega))
    unfold LdOk at hx
    have:=hb _ hx.1 hx.2.1
    have h1:=mul_bd (k:=(ld l i).lo) (K:=100000) (A:=3000) (by omega) this
    have h2:=mul_bd (k:=(ld l i).hi) (K:=100000) (A:=3000) (by omega) this
    omega
theorem c64 (f:Fl) (p m:Int) (g:FuncId) (cap:List AV) (arm:Int→Int) (hf:FlOk f) (hp:0≤p∧p≤3000) (hm:0≤m∧m≤100000)
    (ha:∀ a,0≤a→a≤3000→Pure Tryz.prog g (([] ++ [.int .i64 a]) ++ cap) (fun v=>v=.int .i64 (arm a))) (hb:∀ a,0≤a→a≤3000→-3000≤arm a∧arm a≤3000) :
    Pure Tryz.prog 64 [Tk.av f p m,.fn (.func g) [] cap] (fun v=>v=.agg [.int .i64 (wl arm (f.kilos * arm f.mid+m * arm p) f.loads),.int .i64 (wh arm (f.kilos * arm f.mid+m * arm p) f.loads)]):=by
  have h1:=hf.len;have h2:=hf.mid;have h3:=hf.kilos;have h4:=hf.loads.1
  have m1:=mul_bd h3 (hb f.mid (by omega) (by omega))
  have m2:=mul_bd hm (hb p (by omega) (by omega))
  have wb:=fun i hi=>w_bd (s:=f.kilos * arm f.mid+m * arm p) hf.loads.2 hb i hi
  have e1:∀ i,i < f.loads.length→_:=fun i h=>wl_step (arm:=arm) (s:=f.kilos * arm f.mid+m * arm p) h
  have e2:∀ i,i < f.loads.length→_:=fun i h=>wh_step (arm:=arm) (s:=f.kilos * arm f.mid+m * arm p) h
  intro h
  refine ACalls.forget (ACalls.of tab mixed Tryz.call64 Tryz.func64 rfl (fi:=⟨65,[4,6,8],[2,25,48,60],none,[(1,[0,1,3,0,0,16,48,120,255,0,512,0,0,4096,14584,32504,65535,131071,262143],[(0,false),(1,false),(2,true),(3,false),(4,false),(5,false),(6,true),(9,false),(10,true),(11,false),(12,false),(13,true),(7,false),(8,false),(14,false),(15,false),(16,false),(17,false),(18,false)]),(6,[0,1,0,4,12,0,0,64,224,508,1023,2047,0,4096,0,16384,49152,0,0,262144,921599,2084863,4194303,8388607,16777215,33554431],[(0,false),(1,true),(2,false),(3,false),(4,true),(5,false),(6,false),(7,true),(12,false),(13,true),(14,false),(15,false),(16,true),(17,false),(18,false),(19,true),(8,false),(9,false),(10,false),(11,false),(20,false),(21,false),(22,false),(23,false),(24,false),(25,false)])]⟩) rfl rfl (Nat.le_of_ble_eq_true rfl) (by decide) ?_)
  unfold startA
  simp only[go_sem]
  repeat' (first|refine st_seq_reg rfl (by first|(simp only[go_sem];rfl)|rfl) (by first|(simp only[go_sem];rfl)|rfl) ?_|refine st_seq_draw rfl (by first|(simp only[go_sem];rfl)|rfl) (by first|(simp only[go_sem];rfl)|rfl) ?_|refine st_op ?_|refine st_det rfl (by simp (disch:=omega) only[go_sem,wr_i64,if_yes,if_no,↓reduceIte,reduceAdd,reduceMul,reduceEqDiff,Nat.reduceBEq,reduceLeDiff];rfl) ?_|refine st_dop rfl ?_|refine st_loc rfl (by simp (disch:=omega) only[go_sem,wr_i64,if_yes,if_no,↓reduceIte,reduceAdd,reduceMul,reduceEqDiff,Nat.reduceBEq,reduceLeDiff];rfl) ?_|refine st_store (by simp (disch:=omega) only[go_sem,wr_i64,if_yes,if_no,↓reduceIte,reduceAdd,reduceMul,reduceEqDiff,Nat.reduceBEq,reduceLeDiff];rfl) ?_|(refine st_pureV (by first|(simp only[go_sem];rfl)|rfl) (by first|(simp (disch:=omega) only[go_sem];rfl)|rfl) rfl (ha _ (by omega) (by omega)) (by first|(simp only[go_sem];rfl)|rfl) (by intro n;first|(simp (disch:=omega) only[go_sem];rfl)|rfl) ?_;intro v n hv hn;subst hv)|(refine st_pureE (by first|(simp (disch:=omega) only[go_sem];rfl)|rfl) rfl (sum2 _ _ (by omega) (by omega)) (by first|(simp only[go_sem];rfl)|rfl) (by intro n;first|(simp (disch:=omega) only[go_sem];rfl)|rfl) ?_;intro n hn)|refine st_nil ?_|refine st_dnil ?_|refine st_seq ?_|refine st_block ?_)
  refine st_loopC (α:=Nat) tab mixed [6] [_] (by repeat (first|exact trivial|refine ⟨rfl,?_⟩)) [4] [_] (by repeat (first|exact trivial|refine ⟨rfl,?_⟩)) (fun i=>[(34,.int .i64 i)]) [(1,_),(2,_),(4,_),(6,_),(32,_),(33,_)] (fun i=>[[.int .i64 (wl arm (f.kilos * arm f.mid+m * arm p) (f.loads.take i)),.int .i64 (wh arm (f.kilos * arm f.mid+m * arm p) (f.loads.take i))]]) [_] (fun i=>i≤f.loads.length) (fun i=>f.loads.length - i) (by decide) 0 (by omega) (by (try simp only[go_sem]);repeat' (first|exact trivial|refine And.intro ?_ ?_|rfl|(simp (disch:=omega) only[go_sem,if_yes,if_no,↓reduceIte,reduceAdd,reduceMul,reduceEqDiff,Nat.reduceBEq,reduceLeDiff];rfl)|(simp (disch:=omega) only[go_sem,if_yes,if_no,↓reduceIte,reduceAdd,reduceMul,reduceEqDiff,Nat.reduceBEq,reduceLeDiff]))) (by (try simp only[go_sem]);repeat' (first|exact trivial|refine And.intro ?_ ?_|rfl|(simp (disch:=omega) only[go_sem,if_yes,if_no,↓reduceIte,reduceAdd,reduceMul,reduceEqDiff,Nat.reduceBEq,reduceLeDiff];rfl)|(simp (disch:=omega) only[go_sem,if_yes,if_no,↓reduceIte,reduceAdd,reduceMul,reduceEqDiff,Nat.reduceBEq,reduceLeDiff]))) (by first|(simp only[go_sem];rfl)|rfl) (by intro n;simp only[go_sem];rfl) ?_
  rintro i c hi' hc
  simp only[go_sem]
  have w1:=wb i hi'
  have hx:i < f.loads.length→LdOk (ld f.loads i):=fun h=>hf.loads.2 _ (ld_mem h)
  have w2:i < f.loads.length→_:=fun h=>mul_bd (k:=(ld f.loads i).lo) (K:=100000) ⟨(hx h).2.2.1,by have:=hx h;unfold LdOk at this;omega⟩ (hb (ld f.loads i).at_ (hx h).1 (hx h).2.1)
  have w3:i < f.loads.length→_:=fun h=>mul_bd (k:=(ld f.loads i).hi) (K:=100000) ⟨(by have:=hx h;unfold LdOk at this;omega),(hx h).2.2.2.2⟩ (hb (ld f.loads i).at_ (hx h).1 (hx h).2.1)
  have w4:i < f.loads.length→0≤(ld f.loads i).at_∧(ld f.loads i).at_≤3000:=fun h=>⟨(hx h).1,(hx h).2.1⟩
  repeat' (first|refine st_seq_reg rfl (by first|(simp only[go_sem];rfl)|rfl) (by first|(simp only[go_sem];rfl)|rfl) ?_|refine st_reg rfl (by first|(simp only[go_sem];rfl)|rfl) (by first|(simp only[go_sem];rfl)|rfl) ?_|refine st_draw rfl (by first|(simp only[go_sem];rfl)|rfl) (by first|(simp only[go_sem];rfl)|rfl) ?_|refine st_op ?_|refine st_det rfl (by simp (disch:=omega) only[go_sem,wr_i64,if_yes,if_no,↓reduceIte,reduceAdd,reduceMul,reduceEqDiff,Nat.reduceBEq,reduceLeDiff];rfl) ?_|refine st_dop rfl ?_|refine st_loc rfl (by simp (disch:=omega) only[go_sem,wr_i64,if_yes,if_no,↓reduceIte,reduceAdd,reduceMul,reduceEqDiff,Nat.reduceBEq,reduceLeDiff];rfl) ?_|refine st_store (by simp (disch:=omega) only[go_sem,wr_i64,if_yes,if_no,↓reduceIte,reduceAdd,reduceMul,reduceEqDiff,Nat.reduceBEq,reduceLeDiff];rfl) ?_|(refine st_pureV (by first|(simp only[go_sem];rfl)|rfl) (by first|(simp (disch:=omega) only[go_sem];rfl)|rfl) rfl (ha _ (by omega) (by omega)) (by first|(simp only[go_sem];rfl)|rfl) (by intro n;first|(simp (disch:=omega) only[go_sem];rfl)|rfl) ?_;intro v n hv hn;subst hv)|(refine st_pureE (by first|(simp (disch:=omega) only[go_sem];rfl)|rfl) rfl (sum2 _ _ (by omega) (by omega)) (by first|(simp only[go_sem];rfl)|rfl) (by intro n;first|(simp (disch:=omega) only[go_sem];rfl)|rfl) ?_;intro n hn)|(refine st_condS rfl ?_ ?_ <;> intro hg <;> (try simp only[decide_eq_true_eq,decide_eq_false_iff_not,Bool.not_eq_true',Bool.not_eq_false'] at hg))|refine st_nil ?_|refine st_dnil ?_|refine st_tN ?_|refine st_seq ?_|refine st_block ?_|refine st_skip ?_|refine st_exit ?_|refine st_ret ?_|refine st_tE ?_|refine st_bN ?_|refine st_bH ?_)
  · refine ⟨i+1,(by omega),by omega,(by (try (rw [e1 i (by omega),e2 i (by omega)]));repeat' (first|exact trivial|refine And.intro ?_ ?_|rfl|(simp (disch:=omega) only[go_sem,if_yes,if_no,↓reduceIte,reduceAdd,reduceMul,reduceEqDiff,Nat.reduceBEq,reduceLeDiff];rfl)|(simp (disch:=omega) only[go_sem,if_yes,if_no,↓reduceIte,reduceAdd,reduceMul,reduceEqDiff,Nat.reduceBEq,reduceLeDiff]))),(by (try (rw [e1 i (by omega),e2 i (by omega)]));repeat' (first|exact trivial|refine And.intro ?_ ?_|rfl|(simp (disch:=omega) only[go_sem,if_yes,if_no,↓reduceIte,reduceAdd,reduceMul,reduceEqDiff,Nat.reduceBEq,reduceLeDiff];rfl)|(simp (disch:=omega) only[go_sem,if_yes,if_no,↓reduceIte,reduceAdd,reduceMul,reduceEqDiff,Nat.reduceBEq,reduceLeDiff]))),rfl,(by first|exact HOld.of _ (by omega)|exact HOld.put _ _ _ (by omega))⟩
  · rw [List.take_of_length_le (by omega)]
    simp (disch:=omega) only[AEnd,Tryz.results64,aresK,fin,go_sem,↓reduceIte,reduceEqDiff,reduceAdd,reduceLeDiff,if_yes,if_no,implies_true,true_and,and_true,List.reverse_cons,List.reverse_nil]
end Go.Proofs.YthpkmcjiobnpgaaGreatDoor
