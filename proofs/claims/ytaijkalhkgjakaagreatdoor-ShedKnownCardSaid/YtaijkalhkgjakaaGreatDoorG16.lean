/- Contracts of functions that the claim reaches: what each call gives, told in our own logic. Conditions: those of each theorem. -/
import Derived.Test.YtaijkalhkgjakaaGreatDoorG15
open List (length_map)
set_option linter.all false
set_option linter.unusedSimpArgs false
set_option linter.unusedVariables false
namespace Go.Proofs.YtaijkalhkgjakaaGreatDoor
open Go.Av
attribute [local irreducible] thenA blockA awp awpOps awpD awp1
attribute [local go_sem_proc] Nat.reduceAdd Nat.reduceMul Nat.reduceEqDiff Nat.reduceBEq Nat.reduceLeDiff
attribute [local go_sem_proc ↓] reduceIte
attribute [local go_sem] if_yes if_no
set_option maxHeartbeats 8000000
set_option maxRecDepth 20000
theorem jobs_all:∀ {l:List Jb},jobsE l=0→∀ j ∈ l,j.Ok:=by
 intro l
 induction l with
 | nil=>intro _ j hj;cases hj
 | cons x l ih =>
  intro h j hj
  simp only[jobsE] at h
  split at h
  ·exact absurd h (by assumption)
  ·rename_i hx
   rcases List.mem_cons.1 hj with rfl|hj
   ·have hx:=Decidable.of_not_not hx
    unfold jobE at hx
    unfold Jb.Ok
    split at hx
    ·omega
    ·split at hx
     ·omega
     ·split at hx
      ·omega
      ·omega
   ·exact ih h j hj
theorem shop_ok {S:Sp} (h:shopE S=0):S.Ok:=by
 unfold shopE at h
 split at h
 ·omega
 ·split at h
  ·omega
  ·split at h
   ·omega
   ·exact ⟨by omega,by omega,by omega,jobs_all h⟩
theorem inI {s:Int} {k:Nat} (hs:1≤s∧s≤3) (hk:k < 8):bitop .and .i64 (ndI s) (k:Nat)=0 ↔ inSet s k=false:=by
 have h:∀ (a:Fin 3) (b:Fin 8),bitop .and .i64 (ndI (a.val+1:Nat)) (b.val:Nat)=0 ↔ inSet (a.val+1:Nat) b.val=false:=by decide +kernel
 have:=h ⟨(s - 1).toNat,by omega⟩ ⟨k,hk⟩
 dsimp only at this
 rw [show (((s - 1).toNat+1:Nat):Int)=s by omega] at this
 exact this
theorem hasWI {w:Wk} {k:Nat} (hk:k < 8):bitop .and .i64 w.sk (k:Nat)=0 ↔ w.has k=false:=by
 have h:∀ (a b c:Bool) (k:Fin 8),bitop .and .i64 (Wk.sk ⟨a,b,c⟩) (k.val:Nat)=0 ↔ Wk.has ⟨a,b,c⟩ k.val=false:=by decide +kernel
 exact h w.a w.b w.c ⟨k,hk⟩
theorem ndI_bit {s:Int} (hs:1≤s∧s≤3):ndI s=((skBit s:Nat):Int)∧skBit s < 8:=by
 have:s=1 ∨ s=2 ∨ s=3:=by omega
 rcases this with rfl|rfl|rfl <;> decide
def woF (js:List Jb) (k j:Nat):Nat→Int:=fun x=>if x < k then wsum js x js.length else if x=k then wsum js k j else 0
def haF (ws:List Wk) (k j:Nat):Nat→Int:=fun x=>if x < k then hcnt ws x ws.length else if x=k then hcnt ws k j else 0
def flF (js:List Jb) (i:Nat):Nat→Int:=fun x=>fsum js (x:Nat) i
theorem woF_0 (js:List Jb) (k:Nat):woF js (k+1) 0=woF js k js.length:=by
 funext x
 simp only[woF,wsum]
 by_cases h:x < k
 ·rw [if_pos h,if_pos (by omega)]
 ·by_cases e:x=k
  ·subst e;rw [if_pos (by omega),if_neg h,if_pos rfl]
  ·rw [if_neg (by omega),if_neg h,if_neg e];split <;> rfl
theorem haF_0 (ws:List Wk) (k:Nat):haF ws (k+1) 0=haF ws k ws.length:=by
 funext x
 simp only[haF,hcnt]
 by_cases h:x < k
 ·rw [if_pos h,if_pos (by omega)]
 ·by_cases e:x=k
  ·subst e;rw [if_pos (by omega),if_neg h,if_pos rfl]
  ·rw [if_neg (by omega),if_neg h,if_neg e];split <;> rfl
theorem woF_k (js:List Jb) (k j:Nat):woF js k j k=wsum js k j:=by simp [woF]
theorem haF_k (ws:List Wk) (k j:Nat):haF ws k j k=hcnt ws k j:=by simp [haF]
theorem woF_yes {js:List Jb} {k j:Nat} (h:inSet (jOf js j).s k=true):upd (woF js k j) k (wsum js k j+(jOf js j).d)=woF js k (j+1):=by
 funext x
 by_cases e:x=k
 ·subst e;rw [upd_same,woF_k,wsum,if_pos h]
 ·rw [upd_ne _ _ e];simp only[woF,if_neg e]
theorem woF_no {js:List Jb} {k j:Nat} (h:inSet (jOf js j).s k=false):woF js k (j+1)=woF js k j:=by
 funext x
 simp only[woF,wsum,h,Bool.false_eq_true,if_false,Int.add_zero]
theorem haF_yes {ws:List Wk} {k j:Nat} (h:(wOf ws j).has k=true):upd (haF ws k j) k (hcnt ws k j+1)=haF ws k (j+1):=by
 funext x
 by_cases e:x=k
 ·subst e;rw [upd_same,haF_k,hcnt,if_pos h]
 ·rw [upd_ne _ _ e];simp only[haF,if_neg e]
theorem haF_no {ws:List Wk} {k j:Nat} (h:(wOf ws j).has k=false):haF ws k (j+1)=haF ws k j:=by
 funext x
 simp only[haF,hcnt,h,Bool.false_eq_true,if_false,Int.add_zero]
theorem flF_up {js:List Jb} {i:Nat} (hf:0≤(jOf js i).f):upd (flF js i) (jOf js i).f.toNat (flF js i (jOf js i).f.toNat+(jOf js i).d)=flF js (i+1):=by
 funext x
 by_cases e:x=(jOf js i).f.toNat
 ·subst e
  rw [upd_same]
  simp only[flF,fsum]
  rw [if_pos (by omega)]
 ·rw [upd_ne _ _ e]
  simp only[flF,fsum]
  rw [if_neg (by omega),Int.add_zero]
def bndV (S:Sp):Int × Int:=if shopE S ≠ 0 then (0,shopE S) else if lackD S=true then (0,7) else (boundD S,0)
theorem stepP {p:Nat→Prop} {i:Nat} (h:∀ k,k < i→p k) (hi:p i):∀ k,k < i+1→p k:=fun k hk=>by
 by_cases e:k=i
 ·rw [e];exact hi
 ·exact h k (by omega)
theorem c73n (x:Jb) (hs:1≤x.s∧x.s≤3):PureG gB Tryz.prog 73 [.agg x.row] (fun v=>v=.int .i64 ((skBit x.s:Nat):Int)):=by
 rw [← (ndI_bit hs).1];exact c73 x hs
theorem c35 (S:Sp):PureG gB Tryz.prog 35 [S.av] (fun v=>v=.tup [.int .i64 (bndV S).1,.int .i64 (bndV S).2]):=by
 intro h hgl
 refine ACalls.forget (ACalls.of tab mixed Tryz.call35 Tryz.func35 rfl (fi:=⟨109,[6,7,10,12,14],[1,1000029],none,[(13,[0,1,3,0,8,31,63,127],[(0,false),(1,false),(2,true),(3,false),(4,true),(5,false),(6,false),(7,false)]),(25,[0,1,3,7,0,16,63,127,255],[(0,false),(1,true),(2,false),(3,false),(4,false),(5,true),(6,false),(7,false),(8,false)]),(34,[0,0,0,4,12,30,62,0,128,384,1022,2047,4095],[(0,false),(1,false),(2,false),(3,false),(4,true),(5,false),(6,false),(7,false),(8,false),(9,true),(10,false),(11,false),(12,false)])]⟩) rfl rfl (Nat.le_of_ble_eq_true rfl) (by decide) ?_)
 unfold startA
 try simp only[go_sem]
 repeat' (first|refine st_seq_reg rfl (by first|(simp only[go_sem];rfl)|rfl) (by first|(simp only[go_sem];rfl)|rfl) ?_|refine st_op ?_|refine st_det rfl (by simp (disch:=omega) only[go_sem,wr_i64];rfl) ?_|refine st_loc rfl (by simp (disch:=omega) only[go_sem,wr_i64];rfl) ?_|refine st_heap rfl (by simp (disch:=omega) only[go_sem,wr_i64];rfl) ?_|(refine st_pureE (by first|(simp (disch:=omega) only[go_sem];rfl)|rfl) rfl (c26 S) (by first|(simp only[go_sem];rfl)|rfl) (by intro n;first|(simp (disch:=omega) only[go_sem];rfl)|rfl) ?_;intro n hn)|(refine st_condS rfl ?_ ?_ <;> intro hg <;> (try simp only[dcT,dcF,bnT,bnF] at hg))|refine st_nil ?_|refine st_tN ?_|refine st_seq ?_|refine st_block ?_|refine st_skip ?_|refine st_ret ?_|refine st_tR ?_)
 ·simp (disch:=omega) only[AEnd,Tryz.results35,aresK,fin,go_sem,implies_true,true_and,and_true,List.reverse_cons,List.reverse_nil]
  unfold bndV;rw [if_pos hg]
 have hS:S.Ok:=shop_ok (Decidable.of_not_not hg)
 have h7:=hS.n7
 have h4:=hS.m4
 have hW:=fun k=>wsum_nonneg hS k
 have hC:=fun k=>hcnt_nonneg S.ws k
 have hF:=fun f=>fsum_nonneg hS f
 have hjk:∀ i,i < S.js.length→(jOf S.js i).Ok:=fun i h=>hS.j h
 unfold Jb.Ok at hjk
 refine st_loopH (α:=Nat) tab mixed [6,7] [_,_] (by repeat (first|exact trivial|refine ⟨rfl,?_⟩)) [] [] (by repeat (first|exact trivial|refine ⟨rfl,?_⟩)) (fun k=>[(23,.int .i64 (k:Nat))]) [(1,_),(2,_),(3,_),(5,_),(6,_),(7,_)] (fun k=>[aC 8 (woF S.js k 0),aC 8 (haF S.ws k 0)]) [] (fun _=>(h.tick n).put (n+1,5) (some ⟨7,[aC 7 (flF S.js 0)]⟩)) (fun k=>k≤8) (fun k=>8 - k) (by decide) 0 (Nat.zero_le _) (by (try simp only[go_sem]);repeat' (first|exact trivial|refine And.intro ?_ ?_|rfl|(simp (disch:=omega) only[go_sem,if_yes,if_no,if_no];rfl)|(simp (disch:=omega) only[go_sem,if_yes,if_no,if_no]))) (by (try simp only[go_sem]);repeat' (first|exact trivial|refine And.intro ?_ ?_|rfl|(simp (disch:=omega) only[go_sem,if_yes,if_no,if_no];rfl)|(simp (disch:=omega) only[go_sem,if_yes,if_no,if_no]))) (HOld.of' (by omega)) ?_
 rintro k c hk hc
 have hc0:n≤c:=hc
 simp only[go_sem]
 by_cases hk8:k < 8
 ·repeat' (first|refine st_seq_reg rfl (by first|(simp only[go_sem,Lm];rfl)|rfl) (by first|(simp only[go_sem,Lm];rfl)|rfl) ?_|refine st_op ?_|refine st_det rfl (by simp (disch:=omega) only[go_sem,wr_i64,Lm];rfl) ?_|(refine st_condS rfl ?_ ?_ <;> intro hg <;> (try simp only[dcT,dcF,bnT,bnF] at hg))|refine st_nil ?_|refine st_tN ?_|refine st_seq ?_|refine st_block ?_|refine st_skip ?_|refine st_exit ?_|refine st_tE ?_|refine st_bH ?_)
  all_goals try (exfalso;omega)
  refine st_loopH (α:=Nat) tab mixed [6] [_] (by repeat (first|exact trivial|refine ⟨rfl,?_⟩)) [7] [_] (by repeat (first|exact trivial|refine ⟨rfl,?_⟩)) (fun j=>[(29,.int .i64 (j:Nat))]) [(1,_),(2,_),(3,_),(5,_),(6,_),(7,_),(8,_),(23,_),(27,_),(28,_)] (fun j=>[aC 8 (woF S.js k j)]) [_] (fun _=>(h.tick n).put (n+1,5) (some ⟨7,[aC 7 (flF S.js 0)]⟩)) (fun j=>j≤S.js.length) (fun j=>S.js.length - j) (by decide) 0 (Nat.zero_le _) (by (try simp only[go_sem]);repeat' (first|exact trivial|refine And.intro ?_ ?_|rfl|(simp (disch:=omega) only[go_sem,if_yes,if_no,if_no];rfl)|(simp (disch:=omega) only[go_sem,if_yes,if_no,if_no]))) (by (try simp only[go_sem]);repeat' (first|exact trivial|refine And.intro ?_ ?_|rfl|(simp (disch:=omega) only[go_sem,if_yes,if_no,if_no];rfl)|(simp (disch:=omega) only[go_sem,if_yes,if_no,if_no]))) (HOld.of' (by omega)) ?_
  rintro j c' hj hc'
  have hc0':n≤c':=hc'
  simp only[go_sem]
  have hjj:=fun q:j < S.js.length=>hjk j q
  have hwj:=hW k j hj
  have hwk:=woF_k S.js k j
  repeat' (first|refine st_seq_reg rfl (by first|(simp only[go_sem,Lm,Nat.zero_add,hwk];rfl)|rfl) (by first|(simp only[go_sem,Lm,Nat.zero_add,hwk];rfl)|rfl) ?_|refine st_reg rfl (by first|(simp only[go_sem,Lm,Nat.zero_add,hwk];rfl)|rfl) (by first|(simp only[go_sem,Lm,Nat.zero_add,hwk];rfl)|rfl) ?_|refine st_draw rfl (by first|(simp only[go_sem,Lm,Nat.zero_add,hwk];rfl)|rfl) (by first|(simp only[go_sem,Lm,Nat.zero_add,hwk];rfl)|rfl) ?_|refine st_op ?_|refine st_det rfl (by simp (disch:=omega) only[go_sem,wr_i64,Lm,Nat.zero_add,hwk];rfl) ?_|refine st_dop rfl ?_|refine st_loc rfl (by simp (disch:=omega) only[go_sem,wr_i64,Lm,Nat.zero_add,hwk];rfl) ?_|refine st_store (by simp (disch:=omega) only[go_sem,wr_i64,Lm,Nat.zero_add,hwk];rfl) ?_|(refine st_pureGE (by first|(simp (disch:=omega) only[go_sem,Lm,Nat.zero_add,hwk];rfl)|rfl) rfl (c73 (jOf S.js j) (by have:=hjj (by omega);omega)) (by exact hgl) (by first|(simp only[go_sem,Lm,Nat.zero_add,hwk];rfl)|rfl) (by intro n;first|(simp (disch:=omega) only[go_sem];rfl)|rfl) ?_;intro n hn)|(refine st_condS rfl ?_ ?_ <;> intro hg <;> (try simp only[dcT,dcF,bnT,bnF] at hg))|refine st_nil ?_|refine st_dnil ?_|refine st_tN ?_|refine st_seq ?_|refine st_block ?_|refine st_skip ?_|refine st_exit ?_|refine st_tE ?_|refine st_bN ?_|refine st_bH ?_)
  ·have hin:inSet (jOf S.js j).s k=true:=by
    cases q:inSet (jOf S.js j).s k with
    | true=>rfl
    | false=>exact absurd ((inI (by have:=hjj (by omega);omega) hk8).2 q) hg
   have s1:=(woF_yes hin).symm
   have s0:0≤(jOf S.js j).d∧(jOf S.js j).d≤30:=by have:=hjj (by omega);omega
   have s2:wr .i64 (wsum S.js k j+(jOf S.js j).d)=wsum S.js k j+(jOf S.js j).d:=wr_i64 (by omega)
   refine ⟨j+1,(by omega),by omega,(by (try (simp only[s1,s2]));repeat' (first|exact trivial|refine And.intro ?_ ?_|rfl|(simp (disch:=omega) only[go_sem,if_yes,if_no,if_no];rfl)|(simp (disch:=omega) only[go_sem,if_yes,if_no,if_no]))),(by (try (simp only[s1,s2]));repeat' (first|exact trivial|refine And.intro ?_ ?_|rfl|(simp (disch:=omega) only[go_sem,if_yes,if_no,if_no];rfl)|(simp (disch:=omega) only[go_sem,if_yes,if_no,if_no]))),rfl,(HOld.of' (by omega))⟩
  ·have hin:inSet (jOf S.js j).s k=false:=(inI (by have:=hjj (by omega);omega) hk8).1 (Decidable.of_not_not hg)
   have s1:=woF_no hin
   refine ⟨j+1,(by omega),by omega,(by (try (simp only[s1]));repeat' (first|exact trivial|refine And.intro ?_ ?_|rfl|(simp (disch:=omega) only[go_sem,if_yes,if_no,if_no];rfl)|(simp (disch:=omega) only[go_sem,if_yes,if_no,if_no]))),(by (try (simp only[s1]));repeat' (first|exact trivial|refine And.intro ?_ ?_|rfl|(simp (disch:=omega) only[go_sem,if_yes,if_no,if_no];rfl)|(simp (disch:=omega) only[go_sem,if_yes,if_no,if_no]))),rfl,(HOld.of' (by omega))⟩
  have ej:j=S.js.length:=by omega
  subst ej
  refine st_loopH (α:=Nat) tab mixed [7] [_] (by repeat (first|exact trivial|refine ⟨rfl,?_⟩)) [6] [_] (by repeat (first|exact trivial|refine ⟨rfl,?_⟩)) (fun w=>[(49,.int .i64 (w:Nat))]) [(1,_),(2,_),(3,_),(5,_),(6,_),(7,_),(8,_),(23,_),(47,_),(48,_)] (fun w=>[aC 8 (haF S.ws k w)]) [_] (fun _=>(h.tick n).put (n+1,5) (some ⟨7,[aC 7 (flF S.js 0)]⟩)) (fun w=>w≤S.ws.length) (fun w=>S.ws.length - w) (by decide) 0 (Nat.zero_le _) (by (try simp only[go_sem]);repeat' (first|exact trivial|refine And.intro ?_ ?_|rfl|(simp (disch:=omega) only[go_sem,if_yes,if_no,if_no];rfl)|(simp (disch:=omega) only[go_sem,if_yes,if_no,if_no]))) (by (try simp only[go_sem]);repeat' (first|exact trivial|refine And.intro ?_ ?_|rfl|(simp (disch:=omega) only[go_sem,if_yes,if_no,if_no];rfl)|(simp (disch:=omega) only[go_sem,if_yes,if_no,if_no]))) (HOld.of' (by omega)) ?_
  rintro w c2 hw hc2
  have hc02:n≤c2:=hc2
  simp only[go_sem]
  have hcw:=hC k w
  have hak:=haF_k S.ws k w
  repeat' (first|refine st_seq_reg rfl (by first|(simp only[go_sem,Lm,Nat.zero_add,hak];rfl)|rfl) (by first|(simp only[go_sem,Lm,Nat.zero_add,hak];rfl)|rfl) ?_|refine st_reg rfl (by first|(simp only[go_sem,Lm,Nat.zero_add,hak];rfl)|rfl) (by first|(simp only[go_sem,Lm,Nat.zero_add,hak];rfl)|rfl) ?_|refine st_op ?_|refine st_det rfl (by simp (disch:=omega) only[go_sem,wr_i64,Lm,Nat.zero_add,hak];rfl) ?_|refine st_loc rfl (by simp (disch:=omega) only[go_sem,wr_i64,Lm,Nat.zero_add,hak];rfl) ?_|refine st_store (by simp (disch:=omega) only[go_sem,wr_i64,Lm,Nat.zero_add,hak];rfl) ?_|(refine st_pureE (by first|(simp (disch:=omega) only[go_sem,Lm,Nat.zero_add,hak];rfl)|rfl) rfl (c74 _) (by first|(simp only[go_sem,Lm,Nat.zero_add,hak];rfl)|rfl) (by intro n;first|(simp (disch:=omega) only[go_sem];rfl)|rfl) ?_;intro n hn)|(refine st_condS rfl ?_ ?_ <;> intro hg <;> (try simp only[dcT,dcF,bnT,bnF] at hg))|refine st_nil ?_|refine st_tN ?_|refine st_seq ?_|refine st_block ?_|refine st_skip ?_|refine st_exit ?_|refine st_tE ?_|refine st_bN ?_|refine st_bH ?_)
  ·have hin:(wOf S.ws w).has k=true:=by
    cases q:(wOf S.ws w).has k with
    | true=>rfl
    | false=>exact absurd ((hasWI hk8).2 q) hg
   have s1:=(haF_yes hin).symm
   refine ⟨w+1,(by omega),by omega,(by (try (simp only[s1]));repeat' (first|exact trivial|refine And.intro ?_ ?_|rfl|(simp (disch:=omega) only[go_sem,if_yes,if_no,if_no];rfl)|(simp (disch:=omega) only[go_sem,if_yes,if_no,if_no]))),(by (try (simp only[s1]));repeat' (first|exact trivial|refine And.intro ?_ ?_|rfl|(simp (disch:=omega) only[go_sem,if_yes,if_no,if_no];rfl)|(simp (disch:=omega) only[go_sem,if_yes,if_no,if_no]))),rfl,(HOld.of' (by omega))⟩
  ·have hin:(wOf S.ws w).has k=false:=(hasWI hk8).1 (Decidable.of_not_not hg)
   have s1:=haF_no hin
   refine ⟨w+1,(by omega),by omega,(by (try (simp only[s1]));repeat' (first|exact trivial|refine And.intro ?_ ?_|rfl|(simp (disch:=omega) only[go_sem,if_yes,if_no,if_no];rfl)|(simp (disch:=omega) only[go_sem,if_yes,if_no,if_no]))),(by (try (simp only[s1]));repeat' (first|exact trivial|refine And.intro ?_ ?_|rfl|(simp (disch:=omega) only[go_sem,if_yes,if_no,if_no];rfl)|(simp (disch:=omega) only[go_sem,if_yes,if_no,if_no]))),rfl,(HOld.of' (by omega))⟩
  have ew:w=S.ws.length:=by omega
  subst ew
  refine ⟨k+1,(by omega),by omega,(by (try (simp only[woF_0,haF_0]));repeat' (first|exact trivial|refine And.intro ?_ ?_|rfl|(simp (disch:=omega) only[go_sem,if_yes,if_no,if_no];rfl)|(simp (disch:=omega) only[go_sem,if_yes,if_no,if_no]))),(by (try (simp only[woF_0,haF_0]));repeat' (first|exact trivial|refine And.intro ?_ ?_|rfl|(simp (disch:=omega) only[go_sem,if_yes,if_no,if_no];rfl)|(simp (disch:=omega) only[go_sem,if_yes,if_no,if_no]))),rfl,(HOld.of' (by omega))⟩
 have ek:k=8:=by omega
 subst ek
 repeat' (first|refine st_seq_reg rfl (by first|(simp only[go_sem,Lm];rfl)|rfl) (by first|(simp only[go_sem,Lm];rfl)|rfl) ?_|refine st_op ?_|refine st_det rfl (by simp (disch:=omega) only[go_sem,wr_i64,Lm];rfl) ?_|refine st_condF rfl ?_|refine st_nil ?_|refine st_tN ?_|refine st_seq ?_|refine st_block ?_|refine st_exit ?_|refine st_tE ?_|refine st_bH ?_)
 all_goals try (exfalso;omega)
 refine st_loopH (α:=Nat) tab mixed [] [] (by repeat (first|exact trivial|refine ⟨rfl,?_⟩)) [6,7] [_,_] (by repeat (first|exact trivial|refine ⟨rfl,?_⟩)) (fun i=>[(68,.int .i64 (i:Nat))]) [(1,_),(2,_),(3,_),(5,_),(6,_),(7,_),(66,_),(67,_)] (fun _=>[]) [_,_] (fun i=>(h.tick n).put (n+1,5) (some ⟨7,[aC 7 (flF S.js i)]⟩)) (fun i=>i≤S.js.length∧∀ k,k < i→hcnt S.ws (skBit (jOf S.js k).s) S.ws.length ≠ 0) (fun i=>S.js.length - i) (by decide) 0 ⟨Nat.zero_le _,fun k hk=>absurd hk (Nat.not_lt_zero k)⟩ (by (try simp only[go_sem]);repeat' (first|exact trivial|refine And.intro ?_ ?_|rfl|(simp (disch:=omega) only[go_sem,if_yes,if_no,if_no];rfl)|(simp (disch:=omega) only[go_sem,if_yes,if_no,if_no]))) (by (try simp only[go_sem]);repeat' (first|exact trivial|refine And.intro ?_ ?_|rfl|(simp (disch:=omega) only[go_sem,if_yes,if_no,if_no];rfl)|(simp (disch:=omega) only[go_sem,if_yes,if_no,if_no]))) (HOld.of' (by omega)) ?_
 rintro i c' ⟨hi,hall⟩ hc'
 have hc0':n≤c':=hc'
 simp only[go_sem]
 by_cases hil:i < S.js.length
 ·have hji:=hjk i hil
  have hs3:1≤(jOf S.js i).s∧(jOf S.js i).s≤3:=by omega
  have hFi:=hF (jOf S.js i).f i hi
  have hfl:flF S.js i (jOf S.js i).f.toNat=fsum S.js (jOf S.js i).f i:=by unfold flF;rw [show (((jOf S.js i).f.toNat:Nat):Int)=(jOf S.js i).f by omega]
  have hb8:=(ndI_bit hs3).2
  have hha:haF S.ws 8 0 (skBit (jOf S.js i).s)=hcnt S.ws (skBit (jOf S.js i).s) S.ws.length:=by simp only[haF,if_pos hb8]
  repeat' (first|refine st_seq_reg rfl (by first|(simp only[go_sem,Lm,Nat.zero_add,hfl,hha,List.append_nil];rfl)|rfl) (by first|(simp only[go_sem,Lm,Nat.zero_add,hfl,hha,List.append_nil];rfl)|rfl) ?_|refine st_reg rfl (by first|(simp only[go_sem,Lm,Nat.zero_add,hfl,hha,List.append_nil];rfl)|rfl) (by first|(simp only[go_sem,Lm,Nat.zero_add,hfl,hha,List.append_nil];rfl)|rfl) ?_|refine st_seq_draw rfl (by first|(simp only[go_sem,Lm,Nat.zero_add,hfl,hha,List.append_nil];rfl)|rfl) (by first|(simp only[go_sem,Lm,Nat.zero_add,hfl,hha,List.append_nil];rfl)|rfl) ?_|refine st_op ?_|refine st_det rfl (by simp (disch:=omega) only[go_sem,wr_i64,Lm,Nat.zero_add,hfl,hha,List.append_nil];rfl) ?_|refine st_dop rfl ?_|refine st_loc rfl (by simp (disch:=omega) only[go_sem,wr_i64,Lm,Nat.zero_add,hfl,hha,List.append_nil];rfl) ?_|refine st_store (by simp (disch:=omega) only[go_sem,wr_i64,Lm,Nat.zero_add,hfl,hha,List.append_nil];rfl) ?_|(refine st_pureGE (by first|(simp (disch:=omega) only[go_sem,Lm,Nat.zero_add,hfl,hha,List.append_nil];rfl)|rfl) rfl (c73n (jOf S.js i) hs3) (by exact hgl) (by first|(simp only[go_sem,Lm,Nat.zero_add,hfl,hha,List.append_nil];rfl)|rfl) (by intro n;first|(simp (disch:=omega) only[go_sem];rfl)|rfl) ?_;intro n hn)|(refine st_condS rfl ?_ ?_ <;> intro hg <;> (try simp only[dcT,dcF,bnT,bnF] at hg))|refine st_nil ?_|refine st_dnil ?_|refine st_tN ?_|refine st_seq ?_|refine st_block ?_|refine st_skip ?_|refine st_exit ?_|refine st_ret ?_|refine st_tE ?_|refine st_tR ?_|refine st_bN ?_|refine st_bR ?_|refine st_bH ?_)
  all_goals try (exfalso;omega)
  ·simp (disch:=omega) only[AEnd,Tryz.results35,aresK,fin,go_sem,implies_true,true_and,and_true,List.reverse_cons,List.reverse_nil]
   have hlk:lackD S=true:=by
    unfold lackD
    rw [List.any_eq_true]
    exact ⟨i,List.mem_range.2 hil,by rw [decide_eq_true_eq];exact hg⟩
   unfold bndV;rw [if_neg (by omega),if_pos hlk]
   exact ⟨fun b hb=>if_neg (fun e=>by rw [e] at hb;dsimp only at hb;omega),rfl⟩
  ·have s1:=(flF_up (js:=S.js) (i:=i) (by omega)).symm
   rw [hfl] at s1
   refine ⟨i+1,⟨by omega,stepP hall hg⟩,by omega,(by repeat' (first|exact trivial|refine And.intro ?_ ?_|rfl|(simp (disch:=omega) only[go_sem,if_yes,if_no,if_no];rfl)|(simp (disch:=omega) only[go_sem,if_yes,if_no,if_no]))),(by repeat' (first|exact trivial|refine And.intro ?_ ?_|rfl|(simp (disch:=omega) only[go_sem,if_yes,if_no,if_no];rfl)|(simp (disch:=omega) only[go_sem,if_yes,if_no,if_no]))),rfl,(by rw [s1];exact HOld.of' (by omega))⟩
 have ei:i=S.js.length:=by omega
 subst ei
 have hlk:lackD S=false:=by
  unfold lackD
  rw [List.any_eq_false]
  intro k hk
  have:=hall k (List.mem_range.1 hk)
  rw [decide_eq_true_eq];exact this
 have hM:=(lack_iff hS).1 hlk
 have hHd:=fun set=>hM.hands hS (set:=set)
 have hbv:bndV S=(boundD S,0):=by unfold bndV;rw [if_neg (by omega),hlk];rfl
 repeat' (first|refine st_seq_reg rfl (by first|(simp only[go_sem,Lm,Nat.zero_add];rfl)|rfl) (by first|(simp only[go_sem,Lm,Nat.zero_add];rfl)|rfl) ?_|refine st_seq_draw rfl (by first|(simp only[go_sem,Lm,Nat.zero_add];rfl)|rfl) (by first|(simp only[go_sem,Lm,Nat.zero_add];rfl)|rfl) ?_|refine st_op ?_|refine st_det rfl (by simp (disch:=omega) only[go_sem,wr_i64,Lm,Nat.zero_add];rfl) ?_|refine st_dop rfl ?_|refine st_loc rfl (by simp (disch:=omega) only[go_sem,wr_i64,Lm,Nat.zero_add];rfl) ?_|refine st_store (by simp (disch:=omega) only[go_sem,wr_i64,Lm,Nat.zero_add];rfl) ?_|(refine st_condS rfl ?_ ?_ <;> intro hg <;> (try simp only[dcT,dcF,bnT,bnF] at hg))|refine st_nil ?_|refine st_dnil ?_|refine st_tN ?_|refine st_seq ?_|refine st_block ?_|refine st_skip ?_|refine st_exit ?_|refine st_tE ?_|refine st_bH ?_)
 all_goals try (exfalso;omega)
 first|refine st_free ?_|refine st_seq_free ?_
 refine ASem.frzT 5 (b:=(n+1,5)) (z:=7) (row:=aC 7 (flF S.js S.js.length)) (by simp only[go_sem,↓reduceIte]) (by simp only[go_sem,↓reduceIte,Nat.reduceEqDiff]) ?_
 refine st_run tab mixed (f2:=⟨109,[6,7,10,12,14],[1],none,[(13,[0,1,3,0,8,31,63,127],[(0,false),(1,false),(2,true),(3,false),(4,true),(5,false),(6,false),(7,false)]),(25,[0,1,3,7,0,16,63,127,255],[(0,false),(1,true),(2,false),(3,false),(4,false),(5,true),(6,false),(7,false),(8,false)]),(34,[0,0,0,4,12,30,62,0,128,384,1022,2047,4095],[(0,false),(1,false),(2,false),(3,false),(4,true),(5,false),(6,false),(7,false),(8,false),(9,true),(10,false),(11,false),(12,false)])]⟩) rfl rfl (by decide) ?_
 have hfs:(aC 7 (flF S.js S.js.length)).map (fun x=>[x])=((List.range 7).map fun f=>fsum S.js (f:Nat) S.js.length).map iv:=by
  simp [aC,flF,iv,List.map_map,Function.comp_def]
 have hargs:VLes [.lstx 1 ((aC 7 (flF S.js S.js.length)).map fun x=>[x]),.fn (.func 76) [] []] [.lst 1 (((List.range 7).map fun f=>fsum S.js (f:Nat) S.js.length).map iv),.fn (.func 76) [] []]:=by
  rw [← hfs]
  simp only[VLes]
  exact ⟨_,_,rfl,VLe.lstx _ _,_,_,rfl,VLe.refl _,rfl⟩
 have h91:=c75 ((List.range 7).map fun f=>fsum S.js (f:Nat) S.js.length) (by simp [List.range,List.range.loop]) (by simp)
 obtain ⟨mx,hmx⟩:∃ mx,mx=maxL ((List.range 7).map fun f=>fsum S.js (f:Nat) S.js.length):=⟨_,rfl⟩
 rw [← hmx] at h91
 have hbe:boundD S=bndD S mx 8:=by unfold boundD;rw [hmx]
 repeat' (first|refine st_seq_reg rfl (by first|(simp only[go_sem,Lm,Nat.zero_add,aC_take];rfl)|rfl) (by first|(simp only[go_sem,Lm,Nat.zero_add,aC_take];rfl)|rfl) ?_|refine st_reg rfl (by first|(simp only[go_sem,Lm,Nat.zero_add,aC_take];rfl)|rfl) (by first|(simp only[go_sem,Lm,Nat.zero_add,aC_take];rfl)|rfl) ?_|refine st_op ?_|refine st_det rfl (by simp (disch:=omega) only[go_sem,wr_i64,Lm,Nat.zero_add,aC_take];rfl) ?_|(refine st_callf (args:=[.lstx 1 ((aC 7 (flF S.js S.js.length)).map fun x=>[x]),.fn (.func 76) [] []]) rfl rfl ((h91 _).argLe hargs) ?_;rintro v h' ⟨⟨n2,hn2,rfl⟩,rfl⟩)|refine st_nil ?_|refine st_tN ?_|refine st_seq ?_|refine st_block ?_)
 refine st_loopH (α:=Nat) tab mixed [] [] (by repeat (first|exact trivial|refine ⟨rfl,?_⟩)) [6,7] [_,_] (by repeat (first|exact trivial|refine ⟨rfl,?_⟩)) (fun k=>[(89,.int .i64 (k:Nat)),(15,.int .i64 (bndD S mx k))]) [(1,_),(2,_),(3,_),(6,_),(7,_),(88,_)] (fun _=>[]) [_,_] (fun _=>(h.tick n).put (n+1,5) none) (fun k=>k≤8) (fun k=>8 - k) (by decide) 0 (Nat.zero_le _) (by (try simp only[go_sem]);repeat' (first|exact trivial|refine And.intro ?_ ?_|rfl|(simp (disch:=omega) only[go_sem,if_yes,if_no,if_no];rfl)|(simp (disch:=omega) only[go_sem,if_yes,if_no,if_no]))) (by (try simp only[go_sem]);repeat' (first|exact trivial|refine And.intro ?_ ?_|rfl|(simp (disch:=omega) only[go_sem,if_yes,if_no,if_no];rfl)|(simp (disch:=omega) only[go_sem,if_yes,if_no,if_no]))) (HOld.of' (by have:c'+1+1≤n2:=hn2;omega)) ?_
 rintro k c3 hk3 hc3
 have hc03:n≤c3:=hc3
 simp only[go_sem]
 have hwk:=hW k S.js.length (Nat.le_refl _)
 have hck:=hC k S.ws.length
 have hmk:=hHd k
 have ewo:k < 8→woF S.js 8 0 k=wsum S.js k S.js.length:=fun q=>by simp only[woF,if_pos q]
 have eha:k < 8→haF S.ws 8 0 k=hcnt S.ws k S.ws.length:=fun q=>by simp only[haF,if_pos q]
 by_cases hk8':k < 8
 ·have ewo:=ewo hk8'
  have eha:=eha hk8'
  by_cases hpos:0 < wsum S.js k S.js.length
  ·have hm1:=hmk hpos
   repeat' (first|refine st_seq_reg rfl (by first|(simp only[go_sem,Lm,Nat.zero_add,ewo,eha];rfl)|rfl) (by first|(simp only[go_sem,Lm,Nat.zero_add,ewo,eha];rfl)|rfl) ?_|refine st_reg rfl (by first|(simp only[go_sem,Lm,Nat.zero_add,ewo,eha];rfl)|rfl) (by first|(simp only[go_sem,Lm,Nat.zero_add,ewo,eha];rfl)|rfl) ?_|refine st_draw rfl (by first|(simp only[go_sem,Lm,Nat.zero_add,ewo,eha];rfl)|rfl) (by first|(simp only[go_sem,Lm,Nat.zero_add,ewo,eha];rfl)|rfl) ?_|refine st_op ?_|refine st_det rfl (by simp (disch:=omega) only[go_sem,wr_i64,Lm,Nat.zero_add,ewo,eha];rfl) ?_|refine st_dop rfl ?_|(refine st_condS rfl ?_ ?_ <;> intro hg <;> (try simp only[dcT,dcF,bnT,bnF] at hg))|refine st_nil ?_|refine st_dnil ?_|refine st_tN ?_|refine st_seq ?_|refine st_block ?_|refine st_skip ?_|refine st_exit ?_|refine st_ret ?_|refine st_tE ?_|refine st_bN ?_|refine st_bH ?_)
   all_goals try (exfalso;omega)
   have hd0:0≤(wsum S.js k S.js.length+hcnt S.ws k S.ws.length - 1).tdiv (hcnt S.ws k S.ws.length):=Int.tdiv_nonneg (by omega) (by omega)
   have hd1:(wsum S.js k S.js.length+hcnt S.ws k S.ws.length - 1).tdiv (hcnt S.ws k S.ws.length)≤wsum S.js k S.js.length+hcnt S.ws k S.ws.length - 1:=Int.tdiv_le_self _ (by omega)
   have s2:wr .i64 ((wsum S.js k S.js.length+hcnt S.ws k S.ws.length - 1).tdiv (hcnt S.ws k S.ws.length))=(wsum S.js k S.js.length+hcnt S.ws k S.ws.length - 1).tdiv (hcnt S.ws k S.ws.length):=wr_i64 (by omega)
   have s1:bndD S mx (k+1)=max (bndD S mx k) ((wsum S.js k S.js.length+hcnt S.ws k S.ws.length - 1).tdiv (hcnt S.ws k S.ws.length)):=by rw [bndD,if_pos hpos];rfl
   refine ⟨k+1,(by omega),by omega,(by (try (simp only[s1,s2]));repeat' (first|exact trivial|refine And.intro ?_ ?_|rfl|(simp (disch:=omega) only[go_sem,if_yes,if_no,if_no];rfl)|(simp (disch:=omega) only[go_sem,if_yes,if_no,if_no]))),(by (try (simp only[s1,s2]));repeat' (first|exact trivial|refine And.intro ?_ ?_|rfl|(simp (disch:=omega) only[go_sem,if_yes,if_no,if_no];rfl)|(simp (disch:=omega) only[go_sem,if_yes,if_no,if_no]))),rfl,(HOld.of' (by omega))⟩
  ·repeat' (first|refine st_seq_reg rfl (by first|(simp only[go_sem,Lm,Nat.zero_add,ewo,eha];rfl)|rfl) (by first|(simp only[go_sem,Lm,Nat.zero_add,ewo,eha];rfl)|rfl) ?_|refine st_reg rfl (by first|(simp only[go_sem,Lm,Nat.zero_add,ewo,eha];rfl)|rfl) (by first|(simp only[go_sem,Lm,Nat.zero_add,ewo,eha];rfl)|rfl) ?_|refine st_draw rfl (by first|(simp only[go_sem,Lm,Nat.zero_add,ewo,eha];rfl)|rfl) (by first|(simp only[go_sem,Lm,Nat.zero_add,ewo,eha];rfl)|rfl) ?_|refine st_op ?_|refine st_det rfl (by simp (disch:=omega) only[go_sem,wr_i64,Lm,Nat.zero_add,ewo,eha];rfl) ?_|refine st_dop rfl ?_|(refine st_condS rfl ?_ ?_ <;> intro hg <;> (try simp only[dcT,dcF,bnT,bnF] at hg))|refine st_nil ?_|refine st_tN ?_|refine st_seq ?_|refine st_block ?_|refine st_skip ?_|refine st_exit ?_|refine st_ret ?_|refine st_tE ?_|refine st_bN ?_|refine st_bH ?_)
   all_goals try (exfalso;omega)
   have s1:bndD S mx (k+1)=bndD S mx k:=by rw [bndD,if_neg hpos]
   refine ⟨k+1,(by omega),by omega,(by (try (simp only[s1]));repeat' (first|exact trivial|refine And.intro ?_ ?_|rfl|(simp (disch:=omega) only[go_sem,if_yes,if_no,if_no];rfl)|(simp (disch:=omega) only[go_sem,if_yes,if_no,if_no]))),(by (try (simp only[s1]));repeat' (first|exact trivial|refine And.intro ?_ ?_|rfl|(simp (disch:=omega) only[go_sem,if_yes,if_no,if_no];rfl)|(simp (disch:=omega) only[go_sem,if_yes,if_no,if_no]))),rfl,(HOld.of' (by omega))⟩
 ·have ek:k=8:=by omega
  subst ek
  repeat' (first|refine st_seq_reg rfl (by first|(simp only[go_sem];rfl)|rfl) (by first|(simp only[go_sem];rfl)|rfl) ?_|refine st_op ?_|refine st_det rfl (by simp (disch:=omega) only[go_sem,wr_i64];rfl) ?_|refine st_condF rfl ?_|refine st_nil ?_|refine st_tN ?_|refine st_seq ?_|refine st_exit ?_|refine st_ret ?_|refine st_tE ?_|refine st_bH ?_)
  all_goals try (exfalso;omega)
  simp (disch:=omega) only[AEnd,Tryz.results35,aresK,fin,go_sem,implies_true,true_and,and_true,List.reverse_cons,List.reverse_nil]
  rw [hbv,hbe]
  exact ⟨fun b hb=>if_neg (fun e=>by rw [e] at hb;dsimp only at hb;omega),rfl⟩
end Go.Proofs.YtaijkalhkgjakaaGreatDoor
