/- Contracts of functions that the claim reaches: what each call gives, told in our own logic. Conditions: those of each theorem. -/
import Derived.Test.YtaijkalhkgjakaaGreatDoorF12
import Derived.Test.YtaijkalhkgjakaaGreatDoorF6
open Nat (reduceEqDiff reduceLeDiff)
open List (length_map)
set_option linter.all false
set_option linter.unusedSimpArgs false
set_option linter.unusedVariables false
namespace Go.Proofs.YtaijkalhkgjakaaGreatDoor
open Go.Av
attribute [local irreducible] thenA blockA awp awpOps awpD awp1
attribute [local go_sem_proc] Nat.reduceAdd Nat.reduceMul reduceEqDiff Nat.reduceBEq reduceLeDiff
attribute [local go_sem_proc ↓] reduceIte
attribute [local go_sem] if_yes if_no
set_option maxHeartbeats 8000000
set_option maxRecDepth 20000
def stopR (f:Fl) (r:List Hu) (v:AV):Prop :=
 if bothE f r ≠ 0 then v=.tup [.int .i64 0,.int .i64 (bothE f r)] else
 ∃ k:Int,v=.tup [.int .i64 k,.int .i64 0]∧((k = -1∧∀ j,j < r.length→pV f 0 0 (hu r j)=1) ∨ ∃ j:Nat,j < r.length∧k=j∧pV f 0 0 (hu r j) ≠ 1∧∀ i,i < j→pV f 0 0 (hu r i)=1)
theorem c56 (f:Fl) (r:List Hu):Pure Tryz.prog 56 [f.av,.lst 3 (r.map Hu.row)] (stopR f r):=by
 intro h
 refine ACalls.forget ?_
 have hne0:∀ b':Nat × Nat,b'.1 < h.clk→¬ b'=(h.clk,4):=fun b' hb' e=>by rw [e] at hb';exact absurd hb' (Nat.lt_irrefl _)
 have hne1:∀ b':Nat × Nat,b'.1 < h.clk→¬ b'=(h.clk,5):=fun b' hb' e=>by rw [e] at hb';exact absurd hb' (Nat.lt_irrefl _)
 refine ACalls.of tab mixed Tryz.call56 Tryz.func56 rfl (fi:=⟨24,[],[2],none,[]⟩) rfl rfl (Nat.le_of_ble_eq_true rfl) (by decide) ?_
 unfold startA
 simp only[go_sem]
 repeat' (first|refine st_seq_reg rfl (by first|(simp only[go_sem];rfl)|rfl) (by first|(simp only[go_sem];rfl)|rfl) ?_|refine st_op ?_|refine st_det rfl (by simp (disch:=omega) only[go_sem,wr_i64];rfl) ?_|refine st_heap rfl (by simp (disch:=omega) only[go_sem,wr_i64];rfl) ?_|refine st_store (by simp (disch:=omega) only[go_sem,wr_i64];rfl) ?_|(refine st_pureE (by first|(simp (disch:=omega) only[go_sem];rfl)|rfl) rfl (c93 f r) (by first|(simp only[go_sem];rfl)|rfl) (by intro n;first|(simp (disch:=omega) only[go_sem];rfl)|rfl) ?_;intro n hn)|(refine st_pureE (by first|(simp (disch:=omega) only[go_sem];rfl)|rfl) rfl (c94 f 0 0 r) (by first|(simp only[go_sem];rfl)|rfl) (by intro n;first|(simp (disch:=omega) only[go_sem];rfl)|rfl) ?_;intro n hn)|(refine st_condS rfl ?_ ?_ <;> intro hg <;> (try simp only[dcT,dcF,bnT,bnF] at hg))|refine st_nil ?_|refine st_tN ?_|refine st_seq ?_|refine st_block ?_|refine st_skip ?_|refine st_ret ?_|refine st_tR ?_)
 ·simp (disch:=omega) only[AEnd,Tryz.results56,aresK,fin,go_sem,implies_true,true_and,and_true,List.reverse_cons,List.reverse_nil]
  refine ⟨fun b' hb'=>?_,by simp [stopR,hg]⟩
  simp only[hne0 b' hb',hne1 b' hb',if_false,↓reduceIte]
 have hb:bothE f r=0:=by omega
 obtain ⟨hf,hr,hl,_,_⟩:=bothOk hb
 have hS:∀ v,(∃ k:Int,v=.tup [.int .i64 k,.int .i64 0]∧((k = -1∧∀ j,j < r.length→pV f 0 0 (hu r j)=1) ∨ ∃ j:Nat,j < r.length∧k=j∧pV f 0 0 (hu r j) ≠ 1∧∀ i,i < j→pV f 0 0 (hu r i)=1))→stopR f r v:=fun v hv=>by unfold stopR;rw [if_neg (by omega)];exact hv
 refine st_rangeFunc rfl (by simp only[go_sem];rfl) (fun l D R hR hlp=>?_)
 simp only[go_sem] at hlp
 let J:AH→Prop:=fun g=>(∀ b':Bid,b'.1 < h.clk→g.at_ b'=h.at_ b')∧(∀ l',l' ≠ l→g.lp l'=h.lp l')
 let I:Nat→AH→Prop:=fun i g=>g.lp l=some R∧J g∧g.at_ (h.clk,4)=some ⟨1,[[.int .i64 0]]⟩∧g.at_ (h.clk,5)=some ⟨1,[[.int .i64 0]]⟩∧∀ j,j < i→pV f 0 0 (hu r j)=1
 let E:AH→Prop:=fun g=>g.lp l=some (R.stop .ret)∧J g∧∃ j:Nat,j < r.length∧g.at_ (h.clk,4)=some ⟨1,[[.int .i64 j]]⟩∧g.at_ (h.clk,5)=some ⟨1,[[.int .i64 0]]⟩∧pV f 0 0 (hu r j) ≠ 1∧∀ i,i < j→pV f 0 0 (hu r i)=1
 refine (c123 f 0 0 r l hf (by omega) (by omega) hr (by omega) I E ?_ ?_ ?_ _ ?_).mono ?_
 ·exact fun i g n h _=>h
 ·exact fun g n h _=>h
 ·rintro i g hi ⟨h1,⟨h2,h3⟩,h4,h4',h5⟩
  refine AYields.canon tab mixed [] [2] [] hR h1 rfl (by intro p hp;simp at hp;rcases hp with rfl|rfl <;> decide) [(19,.int .i64 i),(20,.int .i64 (pV f 0 0 (hu r i))),(4,.ptr (h.clk,4) 0 0),(5,.ptr (h.clk,5) 0 0)] ⟨rfl,rfl,rfl,rfl,trivial⟩ rfl rfl ?_
  simp only[go_sem]
  repeat' (first|refine st_seq_reg rfl (by first|(simp only[go_sem];rfl)|rfl) (by first|(simp only[go_sem];rfl)|rfl) ?_|refine st_reg rfl (by first|(simp only[go_sem];rfl)|rfl) (by first|(simp only[go_sem];rfl)|rfl) ?_|refine st_op ?_|refine st_det rfl (by simp (disch:=omega) only[go_sem,wr_i64];rfl) ?_|refine st_nil ?_|refine st_tN ?_)
  refine ⟨h1,?_⟩
  dsimp only
  repeat' (first|refine st_seq_reg rfl (by first|(simp only[go_sem,h4,h4'];rfl)|rfl) (by first|(simp only[go_sem,h4,h4'];rfl)|rfl) ?_|refine st_op ?_|refine st_det rfl (by simp (disch:=omega) only[go_sem,wr_i64,h4,h4'];rfl) ?_|refine st_store (by simp (disch:=omega) only[go_sem,wr_i64,h4,h4'];rfl) ?_|(refine st_condS rfl ?_ ?_ <;> intro hg <;> (try simp only[dcT,dcF,bnT,bnF] at hg))|refine st_nil ?_|refine st_block ?_|refine st_skip ?_|refine st_ret ?_|refine st_bN ?_|refine st_bR ?_)
  ·refine ⟨by simp only[go_sem],.inr ⟨rfl,lpSet_same _ _ _,⟨fun b' hb'=>?_,fun l' hl'=>?_⟩,i,hi,?_,?_,hg,h5⟩⟩
   ·simp only[go_sem];rw [if_neg (hne1 b' hb'),if_neg (hne0 b' hb')];exact h2 b' hb'
   ·rw [lpSet_ne _ _ hl'];simp only[go_sem];rw [lpSet_ne _ _ hl'];exact h3 l' hl'
   ·simp (disch:=omega) only[go_sem,↓reduceIte,reduceEqDiff,reduceLeDiff] <;> rfl
   ·simp (disch:=omega) only[go_sem,↓reduceIte,reduceEqDiff,reduceLeDiff] <;> rfl
  ·refine ⟨by simp only[go_sem],.inl ⟨rfl,lpSet_same _ _ _,⟨fun b' hb'=>h2 b' hb',fun l' hl'=>?_⟩,h4,h4',fun j hj=>?_⟩⟩
   ·rw [lpSet_ne _ _ hl'];simp only[go_sem];rw [lpSet_ne _ _ hl'];exact h3 l' hl'
   ·by_cases e:j=i
    ·rw [e];exact Decidable.of_not_not hg
    ·exact h5 j (by omega)
 ·exact ⟨lpSet_same _ _ _,⟨fun b' hb'=>by simp only[go_sem];rw [if_neg (hne1 b' hb'),if_neg (hne0 b' hb')],fun l' hl'=>by rw [lpSet_ne _ _ hl'];rfl⟩,by simp (disch:=omega) only[go_sem,↓reduceIte,reduceEqDiff,reduceLeDiff] <;> rfl,by simp (disch:=omega) only[go_sem,↓reduceIte,reduceEqDiff,reduceLeDiff] <;> rfl,fun j hj=>absurd hj (Nat.not_lt_zero _)⟩
 ·have hlp2:∀ h':AH,(∀ l',l' ≠ l→h'.lp l'=h.lp l')→(h'.lpSet l none).lp=h.lp:=by
   intro h' h3
   funext l'
   by_cases e:l'=l
   ·rw [e,lpSet_same,hlp]
   ·rw [lpSet_ne _ _ e];exact h3 l' e
  rintro v h' (⟨h1,⟨h2,h3⟩,h4,h4',h5⟩|⟨h1,⟨h2,h3⟩,j,hj,h4,h4',h5,h6⟩)
  ·refine .inl ⟨h1,st_bN (st_tN ?_)⟩
   repeat' (first|refine st_seq_reg rfl (by first|(simp only[go_sem,h4,h4'];rfl)|rfl) (by first|(simp only[go_sem,h4,h4'];rfl)|rfl) ?_|refine st_op ?_|refine st_store (by simp (disch:=omega) only[go_sem,wr_i64,h4,h4'];rfl) ?_|refine st_nil ?_|refine st_ret ?_)
   simp (disch:=omega) only[AEnd,Tryz.results56,aresK,fin,go_sem,implies_true,true_and,and_true,List.reverse_cons,List.reverse_nil,hlp2 h' h3]
   refine ⟨fun b' hb'=>?_,hS _ ⟨-1,rfl,.inl ⟨rfl,h5⟩⟩⟩
   rw [if_neg (hne1 b' hb'),if_neg (hne0 b' hb')];exact h2 b' hb'
  ·refine .inr ⟨.ret,h1,ASem.ret (st_bR (st_tR ?_))⟩
   simp (disch:=omega) only[AEnd,Tryz.results56,aresK,fin,go_sem,implies_true,true_and,and_true,List.reverse_cons,List.reverse_nil,hlp2 h' h3,h4,h4']
   exact ⟨h2,hS _ ⟨j,rfl,.inr ⟨j,hj,rfl,h5,h6⟩⟩⟩
end Go.Proofs.YtaijkalhkgjakaaGreatDoor

namespace Go.Proofs.YtaijkalhkgjakaaGreatDoor
open Go.Av
attribute [local irreducible] thenA blockA awp awpOps awpD awp1
attribute [local go_sem_proc] Nat.reduceAdd Nat.reduceMul reduceEqDiff Nat.reduceBEq reduceLeDiff
attribute [local go_sem_proc ↓] reduceIte
attribute [local go_sem] if_yes if_no
set_option maxHeartbeats 8000000
set_option maxRecDepth 20000
theorem c55 (f:Fl) (h0:chkE f=0):Pure Tryz.prog 55 [f.av] (fun v=>v=.tup [.int .i64 (sV f 0 0),.int .i64 0]):=by
 have hf:=chkOk h0
 intro h
 refine ACalls.forget (ACalls.of tab mixed Tryz.call55 Tryz.func55 rfl (fi:=⟨13,[],[1],none,[]⟩) rfl rfl (Nat.le_of_ble_eq_true rfl) (by decide) ?_)
 unfold startA
 simp only[go_sem]
 repeat' (first|refine st_seq_reg rfl (by first|(simp only[go_sem];rfl)|rfl) (by first|(simp only[go_sem];rfl)|rfl) ?_|refine st_op ?_|refine st_det rfl (by simp (disch:=omega) only[go_sem,wr_i64];rfl) ?_|(refine st_pureE (by first|(simp (disch:=omega) only[go_sem];rfl)|rfl) rfl (c91 f) (by first|(simp only[go_sem];rfl)|rfl) (by intro n;first|(simp (disch:=omega) only[go_sem];rfl)|rfl) ?_;intro n hn)|(refine st_pureE (by first|(simp (disch:=omega) only[go_sem];rfl)|rfl) rfl (c92 f 0 0 hf (by omega) (by omega)) (by first|(simp only[go_sem];rfl)|rfl) (by intro n;first|(simp (disch:=omega) only[go_sem];rfl)|rfl) ?_;intro n hn)|(refine st_condS rfl ?_ ?_ <;> intro hg <;> (try simp only[dcT,dcF,bnT,bnF] at hg))|refine st_nil ?_|refine st_tN ?_|refine st_seq ?_|refine st_skip ?_|refine st_ret ?_|refine st_tR ?_)
 ·exact absurd h0 (by omega)
 ·simp (disch:=omega) only[AEnd,Tryz.results55,aresK,fin,go_sem,implies_true,true_and,and_true,List.reverse_cons,List.reverse_nil]
end Go.Proofs.YtaijkalhkgjakaaGreatDoor

namespace Go.Proofs.YtaijkalhkgjakaaGreatDoor
open Go.Av
attribute [local irreducible] thenA blockA awp awpOps awpD awp1
attribute [local go_sem_proc] Nat.reduceAdd Nat.reduceMul reduceEqDiff Nat.reduceBEq reduceLeDiff
attribute [local go_sem_proc ↓] reduceIte
attribute [local go_sem] if_yes if_no
set_option maxHeartbeats 8000000
set_option maxRecDepth 20000
def staI (f:Fl):Int:=if chkE f=0 then sV f 0 0 else 0
theorem c55u (f:Fl):Pure Tryz.prog 55 [f.av] (fun v=>v=.tup [.int .i64 (staI f),.int .i64 (chkE f)]):=by
 by_cases h0:chkE f=0
 ·have h:=c55 f h0
  unfold staI
  rw [if_pos h0,h0];exact h
 ·intro h
  refine ACalls.forget (ACalls.of tab mixed Tryz.call55 Tryz.func55 rfl (fi:=⟨13,[],[1],none,[]⟩) rfl rfl (Nat.le_of_ble_eq_true rfl) (by decide) ?_)
  unfold startA
  simp only[go_sem]
  repeat' (first|refine st_seq_reg rfl (by first|(simp only[go_sem];rfl)|rfl) (by first|(simp only[go_sem];rfl)|rfl) ?_|refine st_op ?_|refine st_det rfl (by simp (disch:=omega) only[go_sem,wr_i64];rfl) ?_|(refine st_pureE (by first|(simp (disch:=omega) only[go_sem];rfl)|rfl) rfl (c91 f) (by first|(simp only[go_sem];rfl)|rfl) (by intro n;first|(simp (disch:=omega) only[go_sem];rfl)|rfl) ?_;intro n hn)|(refine st_condS rfl ?_ ?_ <;> intro hg <;> (try simp only[dcT,dcF,bnT,bnF] at hg))|refine st_nil ?_|refine st_tN ?_|refine st_seq ?_|refine st_skip ?_|refine st_ret ?_|refine st_tR ?_)
  all_goals try (exfalso;omega)
  simp (disch:=omega) only[AEnd,Tryz.results55,aresK,fin,go_sem,implies_true,true_and,and_true,List.reverse_cons,List.reverse_nil]
  simp [staI,h0]
def allP (f:Fl) (r:List Hu):Bool:=(List.range r.length).all fun j=>decide (pV f 0 0 (hu r j)=1)
theorem c56u (f:Fl) (r:List Hu):Pure Tryz.prog 56 [f.av,.lst 3 (r.map Hu.row)] (fun v=>∃ k:Int,v=.tup [.int .i64 k,.int .i64 (bothE f r)]∧(bothE f r=0→(k < 0 ↔ allP f r=true))):=by
 intro h
 refine (c56 f r h).mono fun v h' ⟨q1,q2⟩=>⟨q1,?_⟩
 unfold stopR at q2
 split at q2
 ·rename_i hb;exact ⟨0,q2,fun e=>absurd e hb⟩
 ·rename_i hb
  have hb:=Decidable.of_not_not hb
  obtain ⟨k,e,hk⟩:=q2
  refine ⟨k,by rw [hb];exact e,fun _=>?_⟩
  unfold allP
  rw [List.all_eq_true]
  simp only[List.mem_range,decide_eq_true_eq]
  rcases hk with ⟨rfl,h1⟩|⟨j,hj,rfl,h1,_⟩
  ·exact ⟨fun _=>h1,fun _=>by decide⟩
  ·exact ⟨fun h2=>by omega,fun h2=>absurd (h2 j hj) h1⟩
def withL (f:Fl) (L:List Ld):Fl:={ f with loads:=L }
def fitB (r:List Hu) (f:Fl) (L:List Ld):Bool:=decide (chkE (withL f L)=0) && decide (bothE (withL f L) r=0) && decide (staI (withL f L)=1) && allP (withL f L) r
theorem c54 (r:List Hu) (f:Fl) (L:List Ld):Pure Tryz.prog 54 [f.av,.lst 7 (L.map Ld.row),.iptr [.lst 3 (r.map Hu.row)] 0] (fun v=>v=.bool (fitB r f L)):=by
 intro h
 refine ACalls.forget (ACalls.of tab mixed Tryz.call54 Tryz.func54 rfl (fi:=⟨37,[3],[],none,[]⟩) rfl rfl (Nat.le_of_ble_eq_true rfl) (by decide) ?_)
 unfold startA
 simp only[go_sem]
 repeat' (first|refine st_seq_reg rfl (by first|(simp only[go_sem];rfl)|rfl) (by first|(simp only[go_sem];rfl)|rfl) ?_|refine st_op ?_|refine st_det rfl (by simp (disch:=omega) only[go_sem,wr_i64];rfl) ?_|refine st_loc rfl (by simp (disch:=omega) only[go_sem,wr_i64];rfl) ?_|refine st_store (by simp (disch:=omega) only[go_sem,wr_i64];rfl) ?_|(refine st_pureE (by first|(simp (disch:=omega) only[go_sem];rfl)|rfl) rfl (c55u (withL f L)) (by first|(simp only[go_sem];rfl)|rfl) (by intro n;first|(simp (disch:=omega) only[go_sem];rfl)|rfl) ?_;intro n hn)|(refine st_pure (by first|(simp (disch:=omega) only[go_sem];rfl)|rfl) rfl (c56u (withL f L) r) (by first|(simp only[go_sem];rfl)|rfl) (by intro n;first|(simp (disch:=omega) only[go_sem];rfl)|rfl) ?_;rintro v n ⟨k,rfl,hk⟩ hn)|refine st_gT rfl rfl rfl ?_|refine st_gF rfl rfl rfl ?_|(refine st_gS rfl rfl ?_ ?_ <;> intro hg <;> (try simp only[dcT,dcF,bnT,bnF] at hg))|refine st_nil ?_|refine st_ret ?_)
 all_goals
  simp (disch:=omega) only[AEnd,Tryz.results54,aresK,fin,go_sem,implies_true,true_and,and_true,List.reverse_cons,List.reverse_nil]
  try simp [fitB, *]
end Go.Proofs.YtaijkalhkgjakaaGreatDoor

namespace Go.Proofs.YtaijkalhkgjakaaGreatDoor
open Go.Av
attribute [local irreducible] thenA blockA awp awpOps awpD awp1
attribute [local go_sem_proc] Nat.reduceAdd Nat.reduceMul reduceEqDiff Nat.reduceBEq reduceLeDiff
attribute [local go_sem_proc ↓] reduceIte
attribute [local go_sem] if_yes if_no
set_option maxHeartbeats 8000000
set_option maxRecDepth 20000
def Fl.row (f:Fl):List AV:=[.int .i64 f.len,.int .i64 f.wid,.int .i64 f.front,.int .i64 f.rear,.int .i64 f.turn,.int .i64 f.kilos,.int .i64 f.mid,.int .i64 f.high,.lst 7 (f.loads.map Ld.row)]
@[go_sem] theorem Fl.row_eq (f:Fl):f.row=[.int .i64 f.len,.int .i64 f.wid,.int .i64 f.front,.int .i64 f.rear,.int .i64 f.turn,.int .i64 f.kilos,.int .i64 f.mid,.int .i64 f.high,.lst 7 (f.loads.map Ld.row)]:=rfl
def fl (l:List Fl) (i:Nat):Fl:=l.getD i ⟨0,0,0,0,0,0,0,0,[]⟩
@[go_sem] theorem fl_getD {l:List Fl} {i:Nat} (h:i < l.length):(l.map Fl.row).getD i []=(fl l i).row:=by
 simp [List.getD_eq_getElem?_getD,h,fl]
def dsR (L:List Ld):List AV:=[.lst 7 (L.map Ld.row)]
@[go_sem] theorem ds_getD {l:List (List Ld)} {i:Nat} (h:i < l.length):(l.map dsR).getD i []=[.lst 7 ((l.getD i []).map Ld.row)]:=by
 simp [List.getD_eq_getElem?_getD,h,dsR]
def bv (b:Bool):List AV:=[.bool b]
def fitsD (r:List Hu) (fs:List Fl) (ds:List (List Ld)):List (List Bool):=fs.map fun f=>ds.map fun L=>fitB r f L
def bvs (l:List Bool):List AV:=[.lst 1 (l.map bv)]
theorem take_snoc {α:Type} {l:List α} {i:Nat} {d:α} (h:i < l.length):l.take (i+1)=l.take i ++ [l.getD i d]:=by
 rw [List.take_add_one,List.getElem?_eq_getElem h,List.getD_eq_getElem?_getD,List.getElem?_eq_getElem h];rfl
theorem c53 (r:List Hu) (fs:List Fl) (ds:List (List Ld)) (hf:fs.length≤6) (hd:ds.length≤6) :
  Pure Tryz.prog 53 [.lst 9 (fs.map Fl.row),.lst 1 (ds.map dsR),.fn (.func 54) [] [.iptr [.lst 3 (r.map Hu.row)] 0]] (fun v=>v=.lst 1 ((fitsD r fs ds).map bvs)):=by
 refine Pure.give Tryz.call53 fun h hold=>?_
 refine ACalls.ofS tab Tryz.call53 Tryz.func53 rfl (fi:=⟨39,[9],[30,35,1000011],none,[]⟩) rfl rfl (Nat.le_of_ble_eq_true rfl) ?_
 unfold startA
 try simp only[go_sem]
 refine asem_seq (fi:=⟨39,[9],[30,35,1000011],none,[]⟩) tab mixed (by decide) ?_
 repeat' (first|refine st_reg rfl (by first|(simp only[go_sem];rfl)|rfl) (by first|(simp only[go_sem];rfl)|rfl) ?_|refine st_op ?_|refine st_det rfl (by simp (disch:=omega) only[go_sem,wr_i64];rfl) ?_|refine st_nil ?_|refine st_tN ?_)
 refine asem_seq (fi:=⟨39,[9],[30,35,1000011],none,[]⟩) tab mixed (by decide) ?_
 repeat' (first|refine st_reg rfl (by first|(simp only[go_sem];rfl)|rfl) (by first|(simp only[go_sem];rfl)|rfl) ?_|refine st_op ?_|refine st_det rfl (by simp (disch:=omega) only[go_sem,wr_i64];rfl) ?_|refine st_nil ?_|refine st_tN ?_)
 refine asem_awp (fi:=⟨39,[9],[30,35,1000011],none,[]⟩) tab mixed (by decide) ?_
 repeat' (first|refine st_seq_reg rfl (by first|(simp only[go_sem,Lm];rfl)|rfl) (by first|(simp only[go_sem,Lm];rfl)|rfl) ?_|refine st_op ?_|refine st_det rfl (by simp (disch:=omega) only[go_sem,wr_i64,Lm];rfl) ?_|refine st_nil ?_|refine st_seq ?_|refine st_block ?_)
 refine st_loopH (α:=Nat × AH × AV) tab mixed [] [] (by repeat (first|exact trivial|refine ⟨rfl,?_⟩)) [] [] (by repeat (first|exact trivial|refine ⟨rfl,?_⟩)) (fun a=>[(15,.int .i64 (a.1:Nat)),(7,a.2.2)]) [(0,_),(1,_),(2,_),(6,_),(13,_),(14,_)] (fun _=>[]) [] (fun a=>a.2.1) (fun a=>a.1≤fs.length∧SlA h.clk a.2.1 a.2.2 1 (((fitsD r fs ds).take a.1).map bvs)∧(∀ b:Bid,b.1 < h.clk→a.2.1.at_ b=h.at_ b)∧a.2.1.lp=h.lp∧h.clk≤a.2.1.clk) (fun a=>fs.length - a.1) (by decide) (0,h,.nils) ⟨Nat.zero_le _,.inl ⟨rfl,rfl⟩,fun _ _=>rfl,rfl,Nat.le_refl _⟩ (by (try simp only[go_sem]);repeat' (first|exact trivial|refine And.intro ?_ ?_|rfl|(simp (disch:=omega) only[go_sem,if_yes,if_no,if_no];rfl)|(simp (disch:=omega) only[go_sem,if_yes,if_no,if_no]))) (by (try simp only[go_sem]);repeat' (first|exact trivial|refine And.intro ?_ ?_|rfl|(simp (disch:=omega) only[go_sem,if_yes,if_no,if_no];rfl)|(simp (disch:=omega) only[go_sem,if_yes,if_no,if_no]))) (HOld.tick (by simp only[go_sem];omega)) ?_
 rintro ⟨i,g,v⟩ c ⟨hi,hsl,hfr,hlp,hgc⟩ hc
 dsimp only at hi hsl hfr hlp hgc hc
 simp only[go_sem]
 have hnv:=hsl.noL
 have hfl:(fitsD r fs ds).length=fs.length:=by simp [fitsD]
 by_cases hil:i < fs.length
 ·have hrow:(fitsD r fs ds).take (i+1)=(fitsD r fs ds).take i ++ [ds.map fun L=>fitB r (fl fs i) L]:=by
   rw [take_snoc (d:=[]) (by rw [hfl];exact hil)]
   simp [fitsD,List.getD_eq_getElem?_getD,hil,fl]
  obtain ⟨row,hrw⟩:∃ row,row=ds.map fun L=>fitB r (fl fs i) L:=⟨_,rfl⟩
  rw [← hrw] at hrow
  have hrl:row.length=ds.length:=by rw [hrw];simp
  have hrg:∀ j,j < ds.length→row.take (j+1)=row.take j ++ [fitB r (fl fs i) (ds.getD j [])]:=fun j hj=>by
   rw [take_snoc (d:=false) (by rw [hrl];exact hj),hrw]
   simp [List.getD_eq_getElem?_getD,hj]
  repeat' (first|refine st_seq_reg rfl (by first|(simp only[go_sem,Lm];rfl)|rfl) (by first|(simp only[go_sem,Lm];rfl)|rfl) ?_|refine st_op ?_|refine st_det rfl (by simp (disch:=omega) only[go_sem,wr_i64,Lm];rfl) ?_|refine st_loc rfl (by simp (disch:=omega) only[go_sem,wr_i64,Lm];rfl) ?_|refine st_store (by simp (disch:=omega) only[go_sem,wr_i64,Lm];rfl) ?_|(refine st_condS rfl ?_ ?_ <;> intro hg <;> (try simp only[dcT,dcF,bnT,bnF] at hg))|refine st_nil ?_|refine st_tN ?_|refine st_seq ?_|refine st_block ?_|refine st_skip ?_|refine st_exit ?_|refine st_ret ?_|refine st_tE ?_|refine st_bH ?_)
  all_goals try (exfalso;omega)
  refine st_loopH (α:=Nat × AH × AV) tab mixed [] [] (by repeat (first|exact trivial|refine ⟨rfl,?_⟩)) [9] [_] (by repeat (first|exact trivial|refine ⟨rfl,?_⟩)) (fun a=>[(21,.int .i64 (a.1:Nat)),(10,a.2.2)]) [(0,_),(1,_),(2,_),(6,_),(7,_),(9,_),(13,_),(14,_),(15,_),(19,_),(20,_)] (fun _=>[]) [_] (fun a=>a.2.1) (fun a=>a.1≤ds.length∧SlA c a.2.1 a.2.2 1 ((row.take a.1).map bv)∧(∀ b:Bid,b.1 < c→a.2.1.at_ b=g.at_ b)∧a.2.1.lp=g.lp∧c≤a.2.1.clk) (fun a=>ds.length - a.1) (by decide) (0,g.tick c,.nils) ⟨Nat.zero_le _,.inl ⟨rfl,rfl⟩,fun _ _=>rfl,rfl,Nat.le_refl _⟩ (by (try simp only[go_sem]);repeat' (first|exact trivial|refine And.intro ?_ ?_|rfl|(simp (disch:=omega) only[go_sem,if_yes,if_no,if_no];rfl)|(simp (disch:=omega) only[go_sem,if_yes,if_no,if_no]))) (by (try simp only[go_sem]);repeat' (first|exact trivial|refine And.intro ?_ ?_|rfl|(simp (disch:=omega) only[go_sem,if_yes,if_no,if_no];rfl)|(simp (disch:=omega) only[go_sem,if_yes,if_no,if_no]))) (HOld.tick (by simp only[go_sem];omega)) ?_
  rintro ⟨j,g2,v2⟩ c2 ⟨hj,hsl2,hfr2,hlp2,hgc2⟩ hc2
  dsimp only at hj hsl2 hfr2 hlp2 hgc2 hc2
  simp only[go_sem]
  have hnv2:=hsl2.noL
  by_cases hjl:j < ds.length
  ·have hrj:=hrg j hjl
   repeat' (first|refine st_seq_reg rfl (by first|(simp only[go_sem,Lm,List.length_take];rfl)|rfl) (by first|(simp only[go_sem,Lm,List.length_take];rfl)|rfl) ?_|refine st_reg rfl (by first|(simp only[go_sem,Lm,List.length_take];rfl)|rfl) (by first|(simp only[go_sem,Lm,List.length_take];rfl)|rfl) ?_|refine st_op ?_|refine st_det rfl (by simp (disch:=omega) only[go_sem,wr_i64,Lm,List.length_take];rfl) ?_|(refine st_pureV (by first|(simp only[go_sem,Lm,List.length_take];rfl)|rfl) (by first|(simp (disch:=omega) only[go_sem,Lm,List.length_take];rfl)|rfl) rfl (c54 r (fl fs i) (ds.getD j [])) (by first|(simp only[go_sem,Lm,List.length_take];rfl)|rfl) (by intro n;first|(simp (disch:=omega) only[go_sem];rfl)|rfl) ?_;intro v n hv hn;subst hv)|(refine st_appS (by intro h id x y;simp only[go_sem];rfl) rfl (by simp only[go_sem,Lm,List.length_take];rfl) (by first|(simp only[go_sem,Lm,List.length_take];rfl)|rfl) (by decide) hsl2 (fun _ _ _=>rfl) (by omega) (by simp only[Lm,List.length_cons,List.length_nil,big,Lm,List.length_take];omega) (by omega) (by omega) ?_;intro v' g' hA)|(refine st_condS rfl ?_ ?_ <;> intro hg <;> (try simp only[dcT,dcF,bnT,bnF] at hg))|refine st_nil ?_|refine st_tN ?_|refine st_seq ?_|refine st_block ?_|refine st_skip ?_|refine st_exit ?_|refine st_tE ?_|refine st_bN ?_|refine st_bH ?_)
   all_goals try (exfalso;omega)
   refine ⟨(j+1,g'.tick n,v'),⟨by show j+1≤ds.length;omega,by show SlA c _ v' 1 ((row.take (j+1)).map bv);rw [hrj,List.map_append];exact hA.sl.to (fun _ _ _ _ _=>rfl) (by simp only[go_sem];omega),fun b hb=>(hA.old b hb).trans (hfr2 b hb),hA.lp.trans hlp2,by simp only[go_sem];omega⟩,by show ds.length - (j+1) < ds.length - j;omega,(by repeat' (first|exact trivial|refine And.intro ?_ ?_|rfl|(simp (disch:=omega) only[go_sem,if_yes,if_no,if_no];rfl)|(simp (disch:=omega) only[go_sem,if_yes,if_no,if_no]))),(by repeat' (first|exact trivial|refine And.intro ?_ ?_|rfl|(simp (disch:=omega) only[go_sem,if_yes,if_no,if_no];rfl)|(simp (disch:=omega) only[go_sem,if_yes,if_no,if_no]))),rfl,HOld.tick (by simp only[go_sem];omega)⟩
  ·have ej:j=ds.length:=by omega
   subst ej
   rw [← hrl,List.take_length] at hsl2
   repeat' (first|refine st_seq_reg rfl (by first|(simp only[go_sem,Lm];rfl)|rfl) (by first|(simp only[go_sem,Lm];rfl)|rfl) ?_|refine st_reg rfl (by first|(simp only[go_sem,Lm];rfl)|rfl) (by first|(simp only[go_sem,Lm];rfl)|rfl) ?_|refine st_op ?_|refine st_det rfl (by simp (disch:=omega) only[go_sem,wr_i64,Lm];rfl) ?_|(refine st_condS rfl ?_ ?_ <;> intro hg <;> (try simp only[dcT,dcF,bnT,bnF] at hg))|refine st_nil ?_|refine st_tN ?_|refine st_seq ?_|refine st_block ?_|refine st_skip ?_|refine st_exit ?_|refine st_tE ?_|refine st_bH ?_)
   all_goals try (exfalso;omega)
   first|refine st_free ?_|refine st_seq_free ?_
   refine ASem.cutK 10 1 (row.map bv) ?_ fun H1 h1a h1b h1c=>?_
   ·simp only[go_sem,↓reduceIte,reduceEqDiff]
    rcases hsl2 with h'|⟨b1,q1,q2,_⟩
    ·exact .inl h'
    ·exact .inr ⟨b1,by rw [Lm] at q1;exact q1,q2⟩
   simp only[go_sem,↓reduceIte,reduceEqDiff] at h1a h1b h1c
   have hv2c:∀ b:Bid,b.1 < c→∀ m,v2 ≠ .slc b 1 0 m:=fun b hb m e=>by have:=(hsl2.lt e).1;omega
   have hslg:SlA h.clk H1 v 1 (((fitsD r fs ds).take i).map bvs):=hsl.to (fun b1 m e q1 q2=>by
    rw [h1a b1 (hv2c b1 (by omega))]
    exact hfr2 b1 (by omega)) (by rw [h1b];omega)
   refine st_run tab mixed (f2:=⟨39,[9],[30,35],none,[]⟩) rfl rfl (by decide) ?_
   repeat' (first|refine st_reg rfl (by first|(simp only[go_sem,Lm,List.length_take,h1b];rfl)|rfl) (by first|(simp only[go_sem,Lm,List.length_take,h1b];rfl)|rfl) ?_|refine st_op ?_|refine st_det rfl (by simp (disch:=omega) only[go_sem,wr_i64,Lm,List.length_take,h1b];rfl) ?_|(refine st_appS (by intro h id x y;simp only[go_sem];rfl) rfl (by simp only[go_sem,Lm,List.length_take,h1b];rfl) (by first|(simp only[go_sem,Lm,List.length_take,h1b];rfl)|rfl) (by decide) hslg (fun _ _ _=>rfl) (by omega) (by simp only[Lm,List.length_cons,List.length_nil,big,Lm,List.length_take,h1b];omega) (by omega) (by omega) ?_;intro v' g' hA)|refine st_nil ?_|refine st_tN ?_|refine st_bN ?_)
   have hfin:∀ b:Bid,b.1 < h.clk→g'.at_ b=h.at_ b:=fun b hb=>by
    rw [hA.old b hb]
    show H1.at_ b=_
    rw [h1a b (hv2c b (by omega)),hfr2 b (by omega)];exact hfr b hb
   have hlpf:g'.lp=h.lp:=hA.lp.trans (h1c.trans (hlp2.trans hlp))
   refine ⟨(i+1,g'.tick (c2+1+1),v'),⟨by show i+1≤fs.length;omega,by show SlA h.clk _ v' 1 (((fitsD r fs ds).take (i+1)).map bvs);rw [hrow,List.map_append];exact hA.sl.to (fun _ _ _ _ _=>rfl) (by simp only[go_sem];omega),hfin,hlpf,by simp only[go_sem];omega⟩,by show fs.length - (i+1) < fs.length - i;omega,(by repeat' (first|exact trivial|refine And.intro ?_ ?_|rfl|(simp (disch:=omega) only[go_sem,if_yes,if_no,if_no];rfl)|(simp (disch:=omega) only[go_sem,if_yes,if_no,if_no]))),(by repeat' (first|exact trivial|refine And.intro ?_ ?_|rfl|(simp (disch:=omega) only[go_sem,if_yes,if_no,if_no];rfl)|(simp (disch:=omega) only[go_sem,if_yes,if_no,if_no]))),rfl,HOld.tick (by simp only[go_sem];omega)⟩
 ·repeat' (first|refine st_seq_reg rfl (by first|(simp only[go_sem,Lm];rfl)|rfl) (by first|(simp only[go_sem,Lm];rfl)|rfl) ?_|refine st_op ?_|refine st_det rfl (by simp (disch:=omega) only[go_sem,wr_i64,Lm];rfl) ?_|refine st_loc rfl (by simp (disch:=omega) only[go_sem,wr_i64,Lm];rfl) ?_|refine st_store (by simp (disch:=omega) only[go_sem,wr_i64,Lm];rfl) ?_|(refine st_condS rfl ?_ ?_ <;> intro hg <;> (try simp only[dcT,dcF,bnT,bnF] at hg))|refine st_nil ?_|refine st_tN ?_|refine st_seq ?_|refine st_block ?_|refine st_skip ?_|refine st_exit ?_|refine st_ret ?_|refine st_tE ?_|refine st_bH ?_)
  all_goals try (exfalso;omega)
  simp (disch:=omega) only[AEnd,Tryz.results53,aresK,fin,go_sem,implies_true,true_and,and_true,List.reverse_cons,List.reverse_nil]
  have ei:i=fs.length:=by omega
  rw [ei,← hfl,List.take_length] at hsl
  refine ⟨hnv,hfr,hlp,?_⟩
  rcases hsl with ⟨rfl,e⟩|⟨b,rfl,q1,q2,q3⟩
  ·refine .inl ⟨_,VLe.nils 1,?_⟩
   rw [e]
  ·refine .inr ⟨b,_,q2,q1,?_⟩
   simp only[frz,List.drop_zero,Nat.zero_add,and_self,if_true,Nat.le_refl,List.take_length]
end Go.Proofs.YtaijkalhkgjakaaGreatDoor
