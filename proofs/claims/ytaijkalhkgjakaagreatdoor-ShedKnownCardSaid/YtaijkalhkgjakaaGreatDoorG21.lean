/- Contracts of functions that the claim reaches: what each call gives, told in our own logic. Conditions: those of each theorem. -/
import Derived.Test.YtaijkalhkgjakaaGreatDoorG19
import Derived.Test.YtaijkalhkgjakaaGreatDoorBaseD
open List (length_map)
set_option linter.all false
set_option linter.unusedSimpArgs false
set_option linter.unusedVariables false
namespace Go.Proofs.YtaijkalhkgjakaaGreatDoor
open Go.Av
attribute [local irreducible] thenA blockA awp awpOps awpD awp1
attribute [local go_sem_proc] Nat.reduceAdd Nat.reduceMul Nat.reduceEqDiff Nat.reduceBEq Nat.reduceLeDiff
attribute [local go_sem_proc ↓] reduceIte
attribute [local go_sem] if_yes if_no
set_option maxHeartbeats 8000000
set_option maxRecDepth 20000
def fitsE (r:List Hu) (fs:List Fl) (ds:List (List Ld)):Int:=if 6 < fs.length ∨ 6 < ds.length then 5 else routeE r
theorem c16 (r:List Hu) (fs:List Fl) (ds:List (List Ld)) (hf:(fs.length:Int) < 1000000) (hd:(ds.length:Int) < 1000000) :
  Pure Tryz.prog 16 [.lst 9 (fs.map Fl.row),.lst 1 (ds.map dsR),.lst 3 (r.map Hu.row)] (fun v=>v=if fitsE r fs ds ≠ 0 then .tup [.nils,.int .i64 (fitsE r fs ds)] else .tup [.lst 1 ((fitsD r fs ds).map bvs),.int .i64 0]):=by
 intro h
 refine ACalls.forget (ACalls.of tab mixed Tryz.call16 Tryz.func16 rfl (fi:=⟨26,[],[5],none,[]⟩) rfl rfl (Nat.le_of_ble_eq_true rfl) (by decide) ?_)
 unfold startA
 try simp only[go_sem]
 repeat' (first|refine st_seq_reg rfl (by first|(simp only[go_sem,Lm];rfl)|rfl) (by first|(simp only[go_sem,Lm];rfl)|rfl) ?_|refine st_op ?_|refine st_det rfl (by simp (disch:=omega) only[go_sem,wr_i64,Lm];rfl) ?_|(refine st_pureE (by first|(simp (disch:=omega) only[go_sem,Lm];rfl)|rfl) rfl (c52 r) (by first|(simp only[go_sem,Lm];rfl)|rfl) (by intro n;first|(simp (disch:=omega) only[go_sem];rfl)|rfl) ?_;intro n hn)|(refine st_pureE (by first|(simp (disch:=omega) only[go_sem,Lm];rfl)|rfl) rfl (c53 r fs ds (by omega) (by omega)) (by first|(simp only[go_sem,Lm];rfl)|rfl) (by intro n;first|(simp (disch:=omega) only[go_sem];rfl)|rfl) ?_;intro n hn)|refine st_gT rfl rfl rfl ?_|refine st_gF rfl rfl rfl ?_|(refine st_gS rfl rfl ?_ ?_ <;> intro hg <;> (try simp only[dcT,dcF,bnT,bnF] at hg))|refine st_condT rfl ?_|(refine st_condS rfl ?_ ?_ <;> intro hg <;> (try simp only[dcT,dcF,bnT,bnF] at hg))|refine st_nil ?_|refine st_tN ?_|refine st_seq ?_|refine st_skip ?_|refine st_ret ?_|refine st_tR ?_)
 ·simp (disch:=omega) only[AEnd,Tryz.results16,aresK,fin,go_sem,implies_true,true_and,and_true,List.reverse_cons,List.reverse_nil]
  have e:fitsE r fs ds=5:=by unfold fitsE;rw [if_pos (by omega)]
  rw [e];rfl
 ·simp (disch:=omega) only[AEnd,Tryz.results16,aresK,fin,go_sem,implies_true,true_and,and_true,List.reverse_cons,List.reverse_nil]
  have e:fitsE r fs ds=5:=by unfold fitsE;rw [if_pos (by omega)]
  rw [e];rfl
 ·simp (disch:=omega) only[AEnd,Tryz.results16,aresK,fin,go_sem,implies_true,true_and,and_true,List.reverse_cons,List.reverse_nil]
  have e:fitsE r fs ds=routeE r:=by unfold fitsE;rw [if_neg (by omega)]
  rw [e,if_pos hg]
 ·simp (disch:=omega) only[AEnd,Tryz.results16,aresK,fin,go_sem,implies_true,true_and,and_true,List.reverse_cons,List.reverse_nil]
  have e:fitsE r fs ds=routeE r:=by unfold fitsE;rw [if_neg (by omega)]
  rw [e,if_neg hg]
theorem c98h (l:List Int) (x:Int) (hl:(l.length:Int) < 1000000) (b:Bid) (es:List (List AV)) (h:AH) (hat:h.at_ b=some ⟨1,es⟩) (hle:l.length≤es.length) (ht:es.take l.length=l.map iv) :
  ACalls Tryz.prog 98 [.slc b 1 0 l.length,.int .i64 x] h (fun v h'=>Later h h'∧∃ k:Int,v=.int .i64 k∧(0≤k ↔ l.contains x=true)):=by
 refine ACalls.forget (ACalls.of tab mixed Tryz.call98 Tryz.func98 rfl (fi:=⟨19,[],[],none,[]⟩) rfl rfl (Nat.le_of_ble_eq_true rfl) (by decide) ?_)
 unfold startA
 try simp only[go_sem]
 repeat' (first|refine st_seq_reg rfl (by first|(simp only[go_sem];rfl)|rfl) (by first|(simp only[go_sem];rfl)|rfl) ?_|refine st_op ?_|refine st_det rfl (by simp (disch:=omega) only[go_sem,wr_i64];rfl) ?_|refine st_nil ?_|refine st_seq ?_|refine st_block ?_)
 refine st_loopC (α:=Nat) tab mixed [] [] (by repeat (first|exact trivial|refine ⟨rfl,?_⟩)) [] [] (by repeat (first|exact trivial|refine ⟨rfl,?_⟩)) (fun i=>[(8,.int .i64 i)]) [(0,_),(1,_),(7,_)] (fun _=>[]) [] (fun i=>i≤l.length∧∀ k,k < i→l.getD k 0 ≠ x) (fun i=>l.length - i) (by decide) 0 ⟨Nat.zero_le _,fun k hk=>absurd hk (Nat.not_lt_zero k)⟩ (by (try simp only[go_sem]);repeat' (first|exact trivial|refine And.intro ?_ ?_|rfl|(simp (disch:=omega) only[go_sem,if_yes,if_no,if_no];rfl)|(simp (disch:=omega) only[go_sem,if_yes,if_no,if_no]))) (by (try simp only[go_sem]);repeat' (first|exact trivial|refine And.intro ?_ ?_|rfl|(simp (disch:=omega) only[go_sem,if_yes,if_no,if_no];rfl)|(simp (disch:=omega) only[go_sem,if_yes,if_no,if_no]))) (by first|(simp only[go_sem];rfl)|rfl) (by intro n;simp only[go_sem];rfl) ?_
 rintro i c ⟨hi',hall⟩ hc
 simp only[go_sem]
 by_cases hil:i < l.length
 ·have hlt:i < es.length:=by omega
  have hes:es.getD i []=[.int .i64 (l.getD i 0)]:=by
   have h1:(l.map iv)[i]?=some [.int .i64 (l.getD i 0)]:=by
    rw [List.getElem?_map,List.getElem?_eq_getElem hil]
    simp [iv,List.getD_eq_getElem?_getD,hil]
   rw [← ht,List.getElem?_take_of_lt hil] at h1
   rw [List.getD_eq_getElem?_getD,h1];rfl
  repeat' (first|refine st_seq_reg rfl (by first|(simp only[go_sem,hat,hes,Nat.zero_add];rfl)|rfl) (by first|(simp only[go_sem,hat,hes,Nat.zero_add];rfl)|rfl) ?_|refine st_reg rfl (by first|(simp only[go_sem,hat,hes,Nat.zero_add];rfl)|rfl) (by first|(simp only[go_sem,hat,hes,Nat.zero_add];rfl)|rfl) ?_|refine st_op ?_|refine st_det rfl (by simp (disch:=omega) only[go_sem,wr_i64,hat,hes,Nat.zero_add];rfl) ?_|(refine st_condS rfl ?_ ?_ <;> intro hg <;> (try simp only[dcT,dcF,bnT,bnF] at hg))|refine st_nil ?_|refine st_tN ?_|refine st_seq ?_|refine st_block ?_|refine st_skip ?_|refine st_exit ?_|refine st_ret ?_|refine st_tE ?_|refine st_tR ?_|refine st_bN ?_|refine st_bR ?_|refine st_bH ?_)
  all_goals try (exfalso;omega)
  ·simp (disch:=omega) only[AEnd,Tryz.results98,aresK,fin,go_sem,implies_true,true_and,and_true,List.reverse_cons,List.reverse_nil]
   refine ⟨_,rfl,fun _=>?_,fun _=>by omega⟩
   rw [List.contains_iff_mem,hg,List.getD_eq_getElem?_getD,List.getElem?_eq_getElem hil]
   exact List.getElem_mem hil
  ·refine ⟨i+1,⟨by omega,stepP hall (fun e=>hg e.symm)⟩,by omega,(by repeat' (first|exact trivial|refine And.intro ?_ ?_|rfl|(simp (disch:=omega) only[go_sem,if_yes,if_no,if_no];rfl)|(simp (disch:=omega) only[go_sem,if_yes,if_no,if_no]))),(by repeat' (first|exact trivial|refine And.intro ?_ ?_|rfl|(simp (disch:=omega) only[go_sem,if_yes,if_no,if_no];rfl)|(simp (disch:=omega) only[go_sem,if_yes,if_no,if_no]))),rfl,(by first|exact HOld.of _ (by omega)|exact HOld.put _ _ _ (by omega))⟩
 ·repeat' (first|refine st_seq_reg rfl (by first|(simp only[go_sem];rfl)|rfl) (by first|(simp only[go_sem];rfl)|rfl) ?_|refine st_op ?_|refine st_det rfl (by simp (disch:=omega) only[go_sem,wr_i64];rfl) ?_|(refine st_condS rfl ?_ ?_ <;> intro hg <;> (try simp only[dcT,dcF,bnT,bnF] at hg))|refine st_nil ?_|refine st_tN ?_|refine st_seq ?_|refine st_block ?_|refine st_skip ?_|refine st_exit ?_|refine st_ret ?_|refine st_tE ?_|refine st_bH ?_)
  all_goals try (exfalso;omega)
  simp (disch:=omega) only[AEnd,Tryz.results98,aresK,fin,go_sem,implies_true,true_and,and_true,List.reverse_cons,List.reverse_nil]
  refine ⟨_,rfl,fun q=>absurd q (by decide),fun q=>?_⟩
  rw [List.contains_iff_mem] at q
  obtain ⟨k,hk,e⟩:=List.getElem_of_mem q
  exact absurd (by rw [List.getD_eq_getElem?_getD,List.getElem?_eq_getElem hk];exact e) (hall k (by omega))
theorem c61h (l:List Int) (x:Int) (hl:(l.length:Int) < 1000000) (b:Bid) (es:List (List AV)) (h:AH) (hat:h.at_ b=some ⟨1,es⟩) (hle:l.length≤es.length) (ht:es.take l.length=l.map iv) :
  ACalls Tryz.prog 61 [.slc b 1 0 l.length,.int .i64 x] h (fun v h'=>Later h h'∧v=.bool (l.contains x)):=by
 refine ACalls.forget (ACalls.of tab mixed Tryz.call61 Tryz.func61 rfl (fi:=⟨9,[],[],none,[]⟩) rfl rfl (Nat.le_of_ble_eq_true rfl) (by decide) ?_)
 unfold startA
 try simp only[go_sem]
 repeat' (first|refine st_seq_reg rfl (by first|(simp only[go_sem];rfl)|rfl) (by first|(simp only[go_sem];rfl)|rfl) ?_|refine st_op ?_|refine st_det rfl (by simp (disch:=omega) only[go_sem,wr_i64];rfl) ?_|(refine st_callf (args:=[.slc b 1 0 l.length,.int .i64 x]) rfl rfl (c98h l x hl b es _ hat hle ht) ?_;rintro v' h' ⟨⟨n,hn,rfl⟩,k,rfl,hk⟩)|refine st_nil ?_|refine st_ret ?_)
 simp (disch:=omega) only[AEnd,Tryz.results61,aresK,fin,go_sem,implies_true,true_and,and_true,List.reverse_cons,List.reverse_nil]
 by_cases q:0≤k
 ·rw [hk.1 q];simp [q]
 ·have:l.contains x=false:=by
   cases e:l.contains x with
   | false=>rfl
   | true=>exact absurd (hk.2 e) q
  rw [this];simp [q]
theorem c98n (x:Int):Pure Tryz.prog 98 [.nils,.int .i64 x] (fun v=>v=.int .i64 (-1)):=by
 intro h
 refine ACalls.forget (ACalls.of tab mixed Tryz.call98 Tryz.func98 rfl (fi:=⟨19,[],[],none,[]⟩) rfl rfl (Nat.le_of_ble_eq_true rfl) (by decide) ?_)
 unfold startA
 try simp only[go_sem]
 repeat' (first|refine st_seq_reg rfl (by first|(simp only[go_sem];rfl)|rfl) (by first|(simp only[go_sem];rfl)|rfl) ?_|refine st_op ?_|refine st_det rfl (by simp (disch:=omega) only[go_sem,wr_i64];rfl) ?_|refine st_nil ?_|refine st_seq ?_|refine st_block ?_)
 refine st_loopC (α:=Nat) tab mixed [] [] (by repeat (first|exact trivial|refine ⟨rfl,?_⟩)) [] [] (by repeat (first|exact trivial|refine ⟨rfl,?_⟩)) (fun i=>[(8,.int .i64 (0:Int))]) [(0,_),(1,_),(7,_)] (fun _=>[]) [] (fun i=>i=0) (fun i=>i) (by decide) 0 rfl (by (try simp only[go_sem]);repeat' (first|exact trivial|refine And.intro ?_ ?_|rfl|(simp (disch:=omega) only[go_sem,if_yes,if_no,if_no];rfl)|(simp (disch:=omega) only[go_sem,if_yes,if_no,if_no]))) (by (try simp only[go_sem]);repeat' (first|exact trivial|refine And.intro ?_ ?_|rfl|(simp (disch:=omega) only[go_sem,if_yes,if_no,if_no];rfl)|(simp (disch:=omega) only[go_sem,if_yes,if_no,if_no]))) (by first|(simp only[go_sem];rfl)|rfl) (by intro n;simp only[go_sem];rfl) ?_
 rintro i c _ hc
 simp only[go_sem]
 repeat' (first|refine st_seq_reg rfl (by first|(simp only[go_sem];rfl)|rfl) (by first|(simp only[go_sem];rfl)|rfl) ?_|refine st_op ?_|refine st_det rfl (by simp (disch:=omega) only[go_sem,wr_i64];rfl) ?_|refine st_condF rfl ?_|refine st_nil ?_|refine st_tN ?_|refine st_seq ?_|refine st_exit ?_|refine st_ret ?_|refine st_tE ?_|refine st_bH ?_)
 simp (disch:=omega) only[AEnd,Tryz.results98,aresK,fin,go_sem,implies_true,true_and,and_true,List.reverse_cons,List.reverse_nil]
theorem c61n (x:Int):Pure Tryz.prog 61 [.nils,.int .i64 x] (fun v=>v=.bool false):=by
 intro h
 refine ACalls.forget (ACalls.of tab mixed Tryz.call61 Tryz.func61 rfl (fi:=⟨9,[],[],none,[]⟩) rfl rfl (Nat.le_of_ble_eq_true rfl) (by decide) ?_)
 unfold startA
 try simp only[go_sem]
 repeat' (first|refine st_seq_reg rfl (by first|(simp only[go_sem];rfl)|rfl) (by first|(simp only[go_sem];rfl)|rfl) ?_|refine st_op ?_|refine st_det rfl (by simp (disch:=omega) only[go_sem,wr_i64];rfl) ?_|(refine st_pureE (by first|(simp (disch:=omega) only[go_sem];rfl)|rfl) rfl (c98n x) (by first|(simp only[go_sem];rfl)|rfl) (by intro n;first|(simp (disch:=omega) only[go_sem];rfl)|rfl) ?_;intro n hn)|refine st_nil ?_|refine st_ret ?_)
 simp (disch:=omega) only[AEnd,Tryz.results61,aresK,fin,go_sem,implies_true,true_and,and_true,List.reverse_cons,List.reverse_nil]
 rfl
theorem c60n:Pure Tryz.prog 60 [.nils] (fun v=>v=.nils):=by
 intro h
 refine ACalls.forget (ACalls.of tab mixed Tryz.call60 Tryz.func60 rfl (fi:=⟨8,[],[],none,[]⟩) rfl rfl (Nat.le_of_ble_eq_true rfl) (by decide) ?_)
 unfold startA
 try simp only[go_sem]
 repeat' (first|refine st_seq_reg rfl (by first|(simp only[go_sem];rfl)|rfl) (by first|(simp only[go_sem];rfl)|rfl) ?_|refine st_op ?_|refine st_det rfl (by simp (disch:=omega) only[go_sem,wr_i64];rfl) ?_|refine st_condT rfl ?_|refine st_nil ?_|refine st_seq ?_|refine st_ret ?_|refine st_tR ?_)
 simp (disch:=omega) only[AEnd,Tryz.results60,aresK,fin,go_sem,implies_true,true_and,and_true,List.reverse_cons,List.reverse_nil]
theorem c60h (l:List Int) (h0:l ≠ []) (hl:(l.length:Int) < 1000000) (b:Bid) (es:List (List AV)) (h:AH) (hat:h.at_ b=some ⟨1,es⟩) (hle:l.length≤es.length) (ht:es.take l.length=l.map iv) :
  ACalls Tryz.prog 60 [.slc b 1 0 l.length] h (fun v h'=>Later h h'∧v=.lst 1 (l.map iv)):=by
 refine ACalls.giveAt Tryz.call60 fun hold=>?_
 have hp:0 < l.length:=List.length_pos_iff.2 h0
 refine ACalls.of tab mixed Tryz.call60 Tryz.func60 rfl (fi:=⟨8,[],[],none,[]⟩) rfl rfl (Nat.le_of_ble_eq_true rfl) (by decide) ?_
 unfold startA
 try simp only[go_sem]
 repeat' (first|refine st_seq_reg rfl (by first|(simp only[go_sem,hat];rfl)|rfl) (by first|(simp only[go_sem,hat];rfl)|rfl) ?_|refine st_op ?_|refine st_det rfl (by simp (disch:=omega) only[go_sem,wr_i64,hat];rfl) ?_|refine st_heap rfl (by simp (disch:=omega) only[go_sem,wr_i64,hat];rfl) ?_|refine st_condF rfl ?_|refine st_nil ?_|refine st_tN ?_|refine st_seq ?_|refine st_skip ?_)
 have hbn:¬ b=(h.clk+1+1,5):=fun e=>by have:=hold b _ hat;rw [e] at this;exact absurd this (by show ¬ h.clk+1+1 < h.clk;omega)
 refine st_appS (z:=1) (m:=8) (h0:=h.clk) (l:=[]) (rows:=l.map iv) (v:=.slc (h.clk+1+1,5) 1 0 0) (G0:=(h.tick (h.clk+1+1+1)).put (h.clk+1+1,5) (some ⟨1,[]⟩)) (n:=h.clk+1+1+1) (by intro h id x y;simp only[go_sem] <;> rfl) (by first|(simp only[go_sem];done)|(simp only[go_sem];rfl)) ?_ rfl (by decide) (.inr ⟨(h.clk+1+1,5),rfl,put_same _ _ _,by show h.clk≤h.clk+1+1;omega,by show h.clk+1+1 < h.clk+1+1+1;omega⟩) (fun _ _ _=>rfl) (Nat.le_refl _) (by simp only[Lm,List.length_nil,big];omega) (by omega) (by omega) ?_
 ·simp only[go_sem,hbn,↓reduceIte,hat]
  simp only[Option.bind_some,↓reduceIte,Nat.zero_add,if_pos hle,List.drop_zero,ht]
 intro v' G hA
 have hnv:=hA.sl.noL
 repeat' (first|refine st_op ?_|refine st_det rfl (by simp (disch:=omega) only[go_sem,wr_i64];rfl) ?_|refine st_nil ?_|refine st_ret ?_)
 simp (disch:=omega) only[AEnd,Tryz.results60,aresK,fin,go_sem,implies_true,true_and,and_true,List.reverse_cons,List.reverse_nil]
 refine ⟨hnv,fun b' hb'=>?_,hA.lp,?_⟩
 ·show G.at_ b'=_
  rw [hA.old b' hb',put_ne _ _ (fun e=>by rw [e] at hb';exact absurd hb' (by show ¬ h.clk+1+1 < h.clk;omega))];rfl
 ·rcases hA.sl with ⟨_,e⟩|⟨b2,rfl,q1,q2,q3⟩
  ·simp at e;exact absurd e h0
  ·refine .inr ⟨b2,_,q2,q1,?_⟩
   simp only[frz,List.nil_append,List.drop_zero,Nat.zero_add,and_self,if_true,Nat.le_refl,List.take_length]
end Go.Proofs.YtaijkalhkgjakaaGreatDoor

namespace Go.Proofs.YtaijkalhkgjakaaGreatDoor
open Go.Av
def fitAt (fits:List (List Bool)) (i k:Nat):Bool:=(fits.getD i []).getD k false
def spare (l:List Int):Nat:=l.countP (fun x=>decide (x < 0))
def tryM (fits:List (List Bool)) (D:Nat):Nat→List Int→Nat→List Int × Nat→List Int × Nat
 | 0,_,_,st=>st
 | f+1,l,z,st =>
  if st.2≤z then st else if l.length=D then (l,z) else
  tryM fits D f (l ++ [-1]) (z+1) ((List.range fits.length).foldl (fun st i=>if fitAt fits i l.length && !l.contains (i:Int) then tryM fits D f (l ++ [(i:Int)]) z st else st) st)
end Go.Proofs.YtaijkalhkgjakaaGreatDoor

namespace Go.Proofs.YtaijkalhkgjakaaGreatDoor
open Go.Av
attribute [local irreducible] thenA blockA awp awpOps awpD awp1
attribute [local go_sem_proc] Nat.reduceAdd Nat.reduceMul Nat.reduceEqDiff Nat.reduceBEq Nat.reduceLeDiff
attribute [local go_sem_proc ↓] reduceIte
attribute [local go_sem] if_yes if_no
set_option maxHeartbeats 8000000
set_option maxRecDepth 20000
def mAV (l:List Int):AV:=if l=[] then .nils else .lst 1 (l.map iv)
theorem mAV_noL (l:List Int):noL (mAV l)=true:=by unfold mAV;split <;> rfl
theorem mAV_cells (l:List Int):(mAV l).cells=[mAV l]:=by unfold mAV;split <;> rfl
theorem mAV_cell (l:List Int):(mAV l).cell=true:=by unfold mAV;split <;> rfl
structure MH (bf bb:Bid) (st:List Int × Nat) (g:AH):Prop where
 f:g.at_ bf=some ⟨1,[[.int .i64 ((st.2:Nat):Int)]]⟩
 b:g.at_ bb=some ⟨1,[[mAV st.1]]⟩
theorem SlW.lt {c0:Nat} {g:AH} {v:AV} {l:List (List AV)} (h:SlW c0 g v l) {b:Bid} (hb:b.1 < c0):∀ m,v ≠ .slc b 1 0 m:=fun m e=>by
 rcases h with ⟨e1,_⟩|⟨b1,es,e1,_,_,_,q,_⟩
 ·rw [e1] at e;cases e
 ·rw [e1] at e;injection e with e2;rw [e2] at q;omega
theorem c61w {c0:Nat} (l:List Int) (x:Int) (hl:(l.length:Int) < 1000000) (v:AV) (h:AH) (hS:SlW c0 h v (l.map iv)) :
  ACalls Tryz.prog 61 [v,.int .i64 x] h (fun v h'=>Later h h'∧v=.bool (l.contains x)):=by
 rcases hS with ⟨rfl,e⟩|⟨b,es,rfl,q1,q2,q3,_⟩
 ·have e:=List.map_eq_nil_iff.1 e
  subst e
  exact (c61n x h).mono fun v h' q=>q
 ·rw [Lm] at q2 q3
  rw [Lm]
  exact c61h l x hl b es h q1 q2 q3
theorem c60w {c0:Nat} (l:List Int) (hl:(l.length:Int) < 1000000) (v:AV) (h:AH) (hS:SlW c0 h v (l.map iv)) (h0:l=[]→v=.nils) :
  ACalls Tryz.prog 60 [v] h (fun v h'=>Later h h'∧v=mAV l):=by
 by_cases e:l=[]
 ·rw [h0 e];subst e;exact c60n h
 ·rcases hS with ⟨rfl,e2⟩|⟨b,es,rfl,q1,q2,q3,_⟩
  ·exact absurd (List.map_eq_nil_iff.1 e2) e
  ·rw [Lm] at q2 q3
   rw [Lm]
   have:=c60h l e hl b es h q1 q2 q3
   have e2:mAV l=.lst 1 (l.map iv):=by unfold mAV;rw [if_neg e]
   rw [e2];exact this
def mcap (fs:List Fl) (ds:List (List Ld)) (fits:List (List Bool)) (bf bb:Bid):List AV:=[.ptr bf 0 0,.iptr [.lst 1 (ds.map dsR)] 0,.ptr bb 0 0,.iptr [.lst 9 (fs.map Fl.row)] 0,.iptr [.lst 1 (fits.map bvs)] 0]
@[go_sem] theorem knot_m (fs:List Fl) (ds:List (List Ld)) (fits:List (List Bool)) (bf bb:Bid) (n:Nat):knot (.func 59) (mcap fs ds fits bf bb) (n+1)=.iptr [.fn (.func 59) [] [.ptr bf 0 0,.iptr [.lst 1 (ds.map dsR)] 0,.ptr bb 0 0,.iptr [.lst 9 (fs.map Fl.row)] 0,.iptr [.lst 1 (fits.map bvs)] 0,knot (.func 59) (mcap fs ds fits bf bb) n]] 0:=rfl
@[go_sem] theorem bvs_getD {l:List (List Bool)} {i:Nat} (h:i < l.length):(l.map bvs).getD i []=[.lst 1 ((l.getD i []).map bv)]:=by
 simp [List.getD_eq_getElem?_getD,h,bvs]
@[go_sem] theorem bv_getD {l:List Bool} {i:Nat} (h:i < l.length):(l.map bv).getD i []=[.bool (l.getD i false)]:=by
 simp [List.getD_eq_getElem?_getD,h,bv]
def stM (fits:List (List Bool)) (D f:Nat) (l:List Int) (z:Nat) (st:List Int × Nat) (i:Nat):List Int × Nat:=if fitAt fits i l.length && !l.contains (i:Int) then tryM fits D f (l ++ [(i:Int)]) z st else st
theorem stM_succ (fits:List (List Bool)) (D f:Nat) (l:List Int) (z:Nat) (st:List Int × Nat) (i:Nat):(List.range (i+1)).foldl (stM fits D f l z) st=stM fits D f l z ((List.range i).foldl (stM fits D f l z) st) i:=by
 rw [List.range_succ,List.foldl_append];rfl
theorem tryM_F {fits:List (List Bool)} {D f:Nat} {l:List Int} {z:Nat} {st:List Int × Nat} (h1:¬ st.2≤z) (h2:l.length ≠ D):tryM fits D (f+1) l z st=tryM fits D f (l ++ [-1]) (z+1) ((List.range fits.length).foldl (stM fits D f l z) st):=by
 simp only[tryM,if_neg h1,if_neg h2];rfl
theorem MH.app {bf bb:Bid} {c0 k0 d n:Nat} {st:List Int × Nat} {g H G:AH} {v v':AV} {l:List (List AV)} {r:List AV} (hm:MH bf bb st g) (hS:SlW c0 g v l) (hA:AppW c0 k0 d H v n l r v' G) (hH:∀ b,H.at_ b=g.at_ b) (hf:bf.1 < c0) (hb:bb.1 < c0) (hk:c0≤k0):MH bf bb st (G.tick n):=by
 have h1:∀ b:Bid,b.1 < c0→(G.tick n).at_ b=g.at_ b:=fun b q=>by
  show G.at_ b=_
  rw [hA.keep b (SlW.lt hS q) (fun e=>by rw [e] at q;dsimp only at q;omega)];exact hH b
 exact ⟨by rw [h1 bf hf];exact hm.f,by rw [h1 bb hb];exact hm.b⟩
theorem c59 (fs:List Fl) (ds:List (List Ld)) (fits:List (List Bool)) (hfl:fits.length=fs.length) (hrl:∀ i,i < fs.length→(fits.getD i []).length=ds.length) (hf6:fs.length≤6) (hd6:ds.length≤6) (bf bb:Bid) (hne:bf ≠ bb) (c0:Nat) (hbf:bf.1 < c0) (hbb:bb.1 < c0) :
  ∀ (f d:Nat) (l:List Int) (z:Nat) (st:List Int × Nat) (v:AV) (h:AH),f≤d→ds.length < l.length+f→l.length≤ds.length→z≤l.length→MH bf bb st h→SlW c0 h v (l.map iv)→(l=[]→v=.nils)→c0≤h.clk →
  ACalls Tryz.prog 59 [v,.int .i64 (z:Nat),.ptr bf 0 0,.iptr [.lst 1 (ds.map dsR)] 0,.ptr bb 0 0,.iptr [.lst 9 (fs.map Fl.row)] 0,.iptr [.lst 1 (fits.map bvs)] 0,knot (.func 59) (mcap fs ds fits bf bb) d] h
   (fun _ h'=>MH bf bb (tryM fits ds.length f l z st) h'∧KeepW c0 h v (l.map iv) h'∧(∀ b:Bid,b.1 < c0→b ≠ bf→b ≠ bb→h'.at_ b=h.at_ b)∧h'.lp=h.lp):=by
 intro f
 induction f with
 | zero=>intro d l z st v h _ h1 h2;omega
 | succ f ih =>
  intro d l z st v h hd hlf hld hzl hm hS h0 hc0
  obtain ⟨d,rfl⟩:∃ d',d=d'+1:=⟨d - 1,by omega⟩
  have hmf:=hm.f
  have hmb:=hm.b
  have hlen:alen (tt 25) v=some ((l.length:Nat):Int):=by have:=hS.len (ti:=tt 25) rfl;rwa [Lm] at this
  have hnv:=hS.noL
  have hSt:∀ n,h.clk≤n→SlW c0 (h.tick n) v (l.map iv):=fun n hn=>hS.same (fun _ _ _=>rfl) hn
  have hkr:∀ g:AH,(∀ b:Bid,c0≤b.1→b.1 < h.clk→g.at_ b=h.at_ b)→h.clk≤g.clk→KeepW c0 h v (l.map iv) g:=fun g q1 q2=>KeepW.of hS q1 q2
  refine ACalls.of tab mixed Tryz.call59 Tryz.func59 rfl (fi:=⟨56,[],[44,51],none,[(7,[0,0,0,4,14,0,63],[(0,true),(1,false),(2,false),(3,false),(5,false),(4,false),(6,false)]),(9,[0,0,0,6,0,16,63],[(0,true),(1,false),(2,false),(4,false),(5,false),(3,false),(6,false)])]⟩) rfl rfl (Nat.le_of_ble_eq_true rfl) (by decide) ?_
  unfold startA
  try simp only[go_sem]
  by_cases hz:st.2≤z
  ·repeat' (first|refine st_seq_reg rfl (by first|(simp only[go_sem,hmf,hnv];rfl)|rfl) (by first|(simp only[go_sem,hmf,hnv];rfl)|rfl) ?_|refine st_op ?_|refine st_det rfl (by simp (disch:=omega) only[go_sem,wr_i64,hmf,hnv];rfl) ?_|(refine st_condS rfl ?_ ?_ <;> intro hg <;> (try simp only[dcT,dcF,bnT,bnF] at hg))|refine st_nil ?_|refine st_tN ?_|refine st_seq ?_|refine st_skip ?_|refine st_ret ?_|refine st_tR ?_)
   all_goals try (exfalso;omega)
   simp (disch:=omega) only[AEnd,Tryz.results59,aresK,fin,go_sem,implies_true,true_and,and_true,List.reverse_cons,List.reverse_nil]
   have e:tryM fits ds.length (f+1) l z st=st:=by simp only[tryM,if_pos hz]
   rw [e]
   exact ⟨⟨hmf,hmb⟩,hkr (h.tick (h.clk+1)) (fun _ _ _=>rfl) (Nat.le_succ _)⟩
  by_cases hD:l.length=ds.length
  ·have e:tryM fits ds.length (f+1) l z st=(l,z):=by simp only[tryM,if_neg hz,if_pos hD]
   rw [e]
   have hcell:=mAV_cell l
   have hcells:=mAV_cells l
   have hmnl:=mAV_noL l
   repeat' (first|refine st_seq_reg rfl (by first|(simp only[go_sem,hmf,hmb,hnv,hlen,Lm,hcell,hcells,hmnl];rfl)|rfl) (by first|(simp only[go_sem,hmf,hmb,hnv,hlen,Lm,hcell,hcells,hmnl];rfl)|rfl) ?_|refine st_op ?_|refine st_det rfl (by simp (disch:=omega) only[go_sem,wr_i64,hmf,hmb,hnv,hlen,Lm,hcell,hcells,hmnl];rfl) ?_|refine st_store (by simp (disch:=omega) only[go_sem,wr_i64,hmf,hmb,hnv,hlen,Lm,hcell,hcells,hmnl];rfl) ?_|(refine st_callf (args:=[v]) rfl (by simp only[List.all_cons,List.all_nil,hnv] <;> rfl) (c60w l (by omega) v _ (hSt _ (by omega)) h0) ?_;rintro v2 h' ⟨⟨n,hn,rfl⟩,rfl⟩)|(refine st_condS rfl ?_ ?_ <;> intro hg <;> (try simp only[dcT,dcF,bnT,bnF] at hg))|refine st_nil ?_|refine st_tN ?_|refine st_seq ?_|refine st_block ?_|refine st_skip ?_|refine st_ret ?_|refine st_tR ?_)
   all_goals try (exfalso;omega)
   have hn2:h.clk+1+1+1≤n:=hn
   have hpb:∀ b:Bid,b ≠ bf→b ≠ bb→(((h.tick n).put bb (some ⟨1,[[mAV l]]⟩)).put bf (some ⟨1,[[.int .i64 ((z:Nat):Int)]]⟩)).at_ b=h.at_ b:=fun b q1 q2=>by rw [put_ne _ _ q1,put_ne _ _ q2];rfl
   simp (disch:=omega) only[AEnd,Tryz.results59,aresK,fin,go_sem,implies_true,true_and,and_true,List.reverse_cons,List.reverse_nil]
   refine ⟨⟨put_same _ _ _,by rw [put_ne _ _ (fun q=>hne q.symm)];exact put_same _ _ _⟩,hkr _ (fun b q1 _=>hpb b (fun q=>by rw [q] at q1;omega) (fun q=>by rw [q] at q1;omega)) (by show h.clk≤n;omega),fun b _ q2 q3=>by rw [if_neg q2,if_neg q3]⟩
  rw [tryM_F hz hD]
  repeat' (first|refine st_seq_reg rfl (by first|(simp only[go_sem,hmf,hmb,hnv,hlen,Lm];rfl)|rfl) (by first|(simp only[go_sem,hmf,hmb,hnv,hlen,Lm];rfl)|rfl) ?_|refine st_op ?_|refine st_det rfl (by simp (disch:=omega) only[go_sem,wr_i64,hmf,hmb,hnv,hlen,Lm];rfl) ?_|(refine st_condS rfl ?_ ?_ <;> intro hg <;> (try simp only[dcT,dcF,bnT,bnF] at hg))|refine st_nil ?_|refine st_tN ?_|refine st_seq ?_|refine st_block ?_|refine st_skip ?_|refine st_ret ?_|refine st_tR ?_)
  all_goals try (exfalso;omega)
  refine st_loopH (α:=Nat × AH) tab mixed [] [] (by repeat (first|exact trivial|refine ⟨rfl,?_⟩)) [] [] (by repeat (first|exact trivial|refine ⟨rfl,?_⟩)) (fun a=>[(24,.int .i64 (a.1:Nat))]) [(0,_),(1,_),(2,_),(3,_),(4,_),(5,_),(6,_),(7,_),(22,_),(23,_)] (fun _=>[]) [] (fun a=>a.2) (fun a=>a.1≤fs.length∧MH bf bb ((List.range a.1).foldl (stM fits ds.length f l z) st) a.2∧KeepW c0 h v (l.map iv) a.2∧(∀ b:Bid,b.1 < c0→b ≠ bf→b ≠ bb→a.2.at_ b=h.at_ b)∧a.2.lp=h.lp) (fun a=>fs.length - a.1) (by decide) (0,h) ⟨Nat.zero_le _,hm,KeepW.refl hS,fun _ _ _ _=>rfl,rfl⟩ (by (try simp only[go_sem]);repeat' (first|exact trivial|refine And.intro ?_ ?_|rfl|(simp (disch:=omega) only[go_sem,if_yes,if_no,if_no];rfl)|(simp (disch:=omega) only[go_sem,if_yes,if_no,if_no]))) (by (try simp only[go_sem]);repeat' (first|exact trivial|refine And.intro ?_ ?_|rfl|(simp (disch:=omega) only[go_sem,if_yes,if_no,if_no];rfl)|(simp (disch:=omega) only[go_sem,if_yes,if_no,if_no]))) (HOld.tick (by simp only[go_sem];omega)) ?_
  rintro ⟨i,g⟩ c ⟨hi,hmg,hkg,hfr,hlp⟩ hc
  dsimp only at hi hmg hkg hfr hlp hc
  simp only[go_sem]
  obtain ⟨st2,est⟩:∃ s,s=(List.range i).foldl (stM fits ds.length f l z) st:=⟨_,rfl⟩
  rw [← est] at hmg
  have hgc:=hkg.clk
  have hSg:=hS.keepW hkg
  have hSt2:∀ n,g.clk≤n→SlW c0 (g.tick n) v (l.map iv):=fun n hn=>hSg.same (fun _ _ _=>rfl) hn
  have hld2:l.length < ds.length:=by omega
  by_cases hil:i < fs.length
  ·have hsu:=stM_succ fits ds.length f l z st i
   rw [← est] at hsu
   have hri:=hrl i hil
   have hfa:fitAt fits i l.length=(fits.getD i []).getD l.length false:=rfl
   have hiv:i < fits.length:=by omega
   repeat' (first|refine st_seq_reg rfl (by first|(simp only[go_sem,hnv,hlen,Lm];rfl)|rfl) (by first|(simp only[go_sem,hnv,hlen,Lm];rfl)|rfl) ?_|refine st_reg rfl (by first|(simp only[go_sem,hnv,hlen,Lm];rfl)|rfl) (by first|(simp only[go_sem,hnv,hlen,Lm];rfl)|rfl) ?_|refine st_draw rfl (by first|(simp only[go_sem,hnv,hlen,Lm];rfl)|rfl) (by first|(simp only[go_sem,hnv,hlen,Lm];rfl)|rfl) ?_|refine st_op ?_|refine st_det rfl (by simp (disch:=omega) only[go_sem,wr_i64,hnv,hlen,Lm];rfl) ?_|refine st_dop rfl ?_|(refine st_callf (args:=[v,.int .i64 (i:Nat)]) rfl (by simp only[List.all_cons,List.all_nil,hnv] <;> rfl) (c61w l i (by omega) v _ (hSt2 _ (by omega))) ?_;rintro v2 h' ⟨⟨n,hn,rfl⟩,rfl⟩)|refine st_gT rfl rfl rfl ?_|refine st_gF rfl rfl rfl ?_|(refine st_gS rfl rfl ?_ ?_ <;> intro hg <;> (try simp only[dcT,dcF,bnT,bnF] at hg))|refine st_condF rfl ?_|(refine st_condS rfl ?_ ?_ <;> intro hg <;> (try simp only[dcT,dcF,bnT,bnF] at hg))|refine st_nil ?_|refine st_tN ?_|refine st_seq ?_|refine st_block ?_|refine st_skip ?_|refine st_exit ?_|refine st_tE ?_|refine st_bN ?_|refine st_bH ?_)
   all_goals try (exfalso;omega)
   have hgn:=hgc
   ·have hn3:c+1+1+1≤n:=by assumption
    refine st_appW (m:=8) (c0:=c0) (l:=l.map iv) (r:=[.int .i64 ((i:Nat):Int)]) (by intro h id x y;simp only[go_sem] <;> rfl) rfl rfl rfl (by first|(simp only[go_sem];done)|(simp only[go_sem];rfl)) (by first|(simp only[go_sem];done)|(simp only[go_sem];rfl)) rfl (hSt2 _ (by omega)) (by simp only[Lm,big];omega) (by omega) (by simp only[go_sem];omega) ?_
    intro v' G hA
    have hnv':=hA.sl.noL
    have hml:(l ++ [((i:Nat):Int)]).map iv=l.map iv ++ [[.int .i64 ((i:Nat):Int)]]:=by rw [List.map_append];rfl
    have hSl:=hA.sl
    rw [← hml] at hSl
    have hmG:=MH.app hmg hSg hA (fun _=>rfl) hbf hbb (by omega)
    have hk2:=fun h2 (q:KeepW c0 (G.tick (g.tick (n+1)).clk) v' (l.map iv ++ [[.int .i64 ((i:Nat):Int)]]) h2)=>hA.keep2 (g:=g) (fun _=>rfl) (by omega:g.clk≤n) (by show n < n+1;omega) hSg q
    have hGf:∀ b:Bid,b.1 < c0→(G.tick (n+1)).at_ b=g.at_ b:=fun b q=>by
     show G.at_ b=_
     rw [hA.keep b (SlW.lt hSg q) (fun e=>by rw [e] at q;dsimp only at q;omega)];rfl
    have hih:=ih d (l ++ [((i:Nat):Int)]) z st2 v' (G.tick (n+1)) (by omega) (by simp;omega) (by simp;omega) (by simp;omega) hmG hSl (by simp) (by show c0≤n+1;omega)
    rw [hml] at hih
    repeat' (first|refine st_reg rfl (by first|(simp only[go_sem,hnv'];rfl)|rfl) (by first|(simp only[go_sem,hnv'];rfl)|rfl) ?_|refine st_op ?_|refine st_det rfl (by simp (disch:=omega) only[go_sem,wr_i64,hnv'];rfl) ?_|refine st_dop rfl ?_|(refine st_call (args:=[v',.int .i64 (z:Nat)]) rfl (by first|(simp (disch:=omega) only[go_sem];done)|(simp (disch:=omega) only[go_sem];rfl)) (by simp only[List.all_cons,List.all_nil,hnv'] <;> rfl) hih ?_;rintro v3 h3 ⟨m3,k3,fr3,lp3⟩)|refine st_nil ?_|refine st_dnil ?_|refine st_tN ?_|refine st_bN ?_)
    have hq1:(fits.getD i []).getD l.length false=true:=by assumption
    have hs2:stM fits ds.length f l z st2 i=tryM fits ds.length f (l ++ [((i:Nat):Int)]) z st2:=by unfold stM;rw [if_pos (by rw [hfa,hq1,hg];rfl)]
    have hk3:=hk2 h3 k3
    have hc3:=k3.clk
    have hfin:∀ b:Bid,b.1 < c0→b ≠ bf→b ≠ bb→h3.at_ b=h.at_ b:=fun b q1 q2 q3=>by rw [fr3 b q1 q2 q3,hGf b q1];exact hfr b q1 q2 q3
    have hlp3:h3.lp=h.lp:=lp3.trans (hA.lp.trans hlp)
    refine ⟨(i+1,h3),⟨by show i+1≤fs.length;omega,by show MH bf bb ((List.range (i+1)).foldl _ st) h3;rw [hsu,hs2];exact m3,hkg.trans hk3,hfin,hlp3⟩,by show fs.length - (i+1) < fs.length - i;omega,(by repeat' (first|exact trivial|refine And.intro ?_ ?_|rfl|(simp (disch:=omega) only[go_sem,if_yes,if_no,if_no];rfl)|(simp (disch:=omega) only[go_sem,if_yes,if_no,if_no]))),(by repeat' (first|exact trivial|refine And.intro ?_ ?_|rfl|(simp (disch:=omega) only[go_sem,if_yes,if_no,if_no];rfl)|(simp (disch:=omega) only[go_sem,if_yes,if_no,if_no]))),rfl,HOld.tick (by simp only[go_sem];omega)⟩
   ·have hs2:stM fits ds.length f l z st2 i=st2:=by unfold stM;rw [if_neg (by rw [hfa,hg];simp)]
    refine ⟨(i+1,g),⟨by show i+1≤fs.length;omega,by show MH bf bb ((List.range (i+1)).foldl _ st) g;rw [hsu,hs2];exact hmg,hkg,hfr,hlp⟩,by show fs.length - (i+1) < fs.length - i;omega,(by repeat' (first|exact trivial|refine And.intro ?_ ?_|rfl|(simp (disch:=omega) only[go_sem,if_yes,if_no,if_no];rfl)|(simp (disch:=omega) only[go_sem,if_yes,if_no,if_no]))),(by repeat' (first|exact trivial|refine And.intro ?_ ?_|rfl|(simp (disch:=omega) only[go_sem,if_yes,if_no,if_no];rfl)|(simp (disch:=omega) only[go_sem,if_yes,if_no,if_no]))),rfl,HOld.tick (by simp only[go_sem] at *;omega)⟩
   ·have hs2:stM fits ds.length f l z st2 i=st2:=by unfold stM;rw [if_neg (by rw [hfa,hg];simp)]
    refine ⟨(i+1,g),⟨by show i+1≤fs.length;omega,by show MH bf bb ((List.range (i+1)).foldl _ st) g;rw [hsu,hs2];exact hmg,hkg,hfr,hlp⟩,by show fs.length - (i+1) < fs.length - i;omega,(by repeat' (first|exact trivial|refine And.intro ?_ ?_|rfl|(simp (disch:=omega) only[go_sem,if_yes,if_no,if_no];rfl)|(simp (disch:=omega) only[go_sem,if_yes,if_no,if_no]))),(by repeat' (first|exact trivial|refine And.intro ?_ ?_|rfl|(simp (disch:=omega) only[go_sem,if_yes,if_no,if_no];rfl)|(simp (disch:=omega) only[go_sem,if_yes,if_no,if_no]))),rfl,HOld.tick (by simp only[go_sem] at *;omega)⟩
  ·repeat' (first|refine st_seq_reg rfl (by first|(simp only[go_sem,hnv,hlen,Lm];rfl)|rfl) (by first|(simp only[go_sem,hnv,hlen,Lm];rfl)|rfl) ?_|refine st_reg rfl (by first|(simp only[go_sem,hnv,hlen,Lm];rfl)|rfl) (by first|(simp only[go_sem,hnv,hlen,Lm];rfl)|rfl) ?_|refine st_draw rfl (by first|(simp only[go_sem,hnv,hlen,Lm];rfl)|rfl) (by first|(simp only[go_sem,hnv,hlen,Lm];rfl)|rfl) ?_|refine st_op ?_|refine st_det rfl (by simp (disch:=omega) only[go_sem,wr_i64,hnv,hlen,Lm];rfl) ?_|refine st_dop rfl ?_|refine st_gT rfl rfl rfl ?_|refine st_gF rfl rfl rfl ?_|(refine st_gS rfl rfl ?_ ?_ <;> intro hg <;> (try simp only[dcT,dcF,bnT,bnF] at hg))|refine st_condF rfl ?_|(refine st_condS rfl ?_ ?_ <;> intro hg <;> (try simp only[dcT,dcF,bnT,bnF] at hg))|refine st_nil ?_|refine st_tN ?_|refine st_seq ?_|refine st_block ?_|refine st_skip ?_|refine st_exit ?_|refine st_tE ?_|refine st_bN ?_|refine st_bH ?_)
   all_goals try (exfalso;omega)
   ·have hif:i=fits.length:=by omega
    refine st_appW (m:=8) (c0:=c0) (l:=l.map iv) (r:=[.int .i64 (-1)]) (by intro h id x y;simp only[go_sem] <;> rfl) rfl rfl rfl (by first|(simp only[go_sem];done)|(simp only[go_sem];rfl)) (by first|(simp only[go_sem];done)|(simp only[go_sem];rfl)) rfl (hSt2 _ (by omega)) (by simp only[Lm,big];omega) (by omega) (by simp only[go_sem];omega) ?_
    intro v' G hA
    have hnv':=hA.sl.noL
    have hml:(l ++ [(-1)]).map iv=l.map iv ++ [[.int .i64 (-1)]]:=by rw [List.map_append];rfl
    have hSl:=hA.sl
    rw [← hml] at hSl
    have hmG:=MH.app hmg hSg hA (fun _=>rfl) hbf hbb (by omega)
    have hk2:=fun h2 (q:KeepW c0 (G.tick (g.tick ((c+1)+1)).clk) v' (l.map iv ++ [[.int .i64 (-1)]]) h2)=>hA.keep2 (g:=g) (fun _=>rfl) (by omega:g.clk≤(c+1)) (by show (c+1) < (c+1)+1;omega) hSg q
    have hGf:∀ b:Bid,b.1 < c0→(G.tick ((c+1)+1)).at_ b=g.at_ b:=fun b q=>by
     show G.at_ b=_
     rw [hA.keep b (SlW.lt hSg q) (fun e=>by rw [e] at q;dsimp only at q;omega)];rfl
    have hih:=ih d (l ++ [(-1)]) (z+1) st2 v' (G.tick (c+1+1)) (by omega) (by simp;omega) (by simp;omega) (by simp;omega) hmG hSl (by simp) (by show c0≤c+1+1;omega)
    rw [hml,show (((z+1:Nat)):Int)=((z:Nat):Int)+1 from rfl] at hih
    repeat' (first|refine st_dop rfl ?_|(refine st_call (args:=[v',.int .i64 ((z:Nat)+1)]) rfl (by first|(simp (disch:=omega) only[go_sem];done)|(simp (disch:=omega) only[go_sem];rfl)) (by simp only[List.all_cons,List.all_nil,hnv'] <;> rfl) hih ?_;rintro v3 h3 ⟨m3,k3,fr3,lp3⟩)|refine st_dnil ?_)
    have hk3:=hk2 h3 k3
    have hc3:=k3.clk
    have hfin:∀ b:Bid,b.1 < c0→b ≠ bf→b ≠ bb→h3.at_ b=h.at_ b:=fun b q1 q2 q3=>by rw [fr3 b q1 q2 q3,hGf b q1];exact hfr b q1 q2 q3
    have hlp3:h3.lp=h.lp:=lp3.trans (hA.lp.trans hlp)
    simp (disch:=omega) only[AEnd,Tryz.results59,aresK,fin,go_sem,implies_true,true_and,and_true,List.reverse_cons,List.reverse_nil]
    rw [← hif,← est]
    exact ⟨m3,hkg.trans hk3,hfin,hlp3⟩
end Go.Proofs.YtaijkalhkgjakaaGreatDoor
