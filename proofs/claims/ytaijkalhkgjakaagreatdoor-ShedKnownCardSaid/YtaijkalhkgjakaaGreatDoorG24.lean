/- Contracts of functions that the claim reaches: what each call gives, told in our own logic. Conditions: those of each theorem. -/
import Derived.Test.YtaijkalhkgjakaaGreatDoorG21
open List (length_map)
set_option linter.all false
set_option linter.unusedSimpArgs false
set_option linter.unusedVariables false
namespace Go.Proofs.YtaijkalhkgjakaaGreatDoor
open Go.Av
attribute [local irreducible] thenA blockA awp awpOps awpD awp1
attribute [local go_sem_proc] Nat.reduceAdd Nat.reduceMul Nat.reduceEqDiff Nat.reduceBEq Nat.reduceLeDiff
attribute [local go_sem_proc ↓] reduceIte
attribute [local go_sem] if_yes if_no
set_option maxHeartbeats 8000000
set_option maxRecDepth 20000
def matchR (fits:List (List Bool)) (D:Nat):List Int × Nat:=tryM fits D (D+1) [] 0 ([],D+1)
def matchV (r:List Hu) (fs:List Fl) (ds:List (List Ld)):AV:=if fitsE r fs ds ≠ 0 then .tup [.nils,.int .i64 (fitsE r fs ds)] else .tup [mAV (matchR (fitsD r fs ds) ds.length).1,.int .i64 0]
theorem fits_len {r:List Hu} {fs:List Fl} {ds:List (List Ld)} (h:fitsE r fs ds=0):fs.length≤6∧ds.length≤6:=by
 unfold fitsE at h
 split at h
 ·omega
 ·omega
theorem c18 (r:List Hu) (fs:List Fl) (ds:List (List Ld)) (hf:(fs.length:Int) < 1000000) (hd:(ds.length:Int) < 1000000) :
  Pure Tryz.prog 18 [.lst 9 (fs.map Fl.row),.lst 1 (ds.map dsR),.lst 3 (r.map Hu.row)] (fun v=>v=matchV r fs ds):=by
 intro h
 refine ACalls.forget ?_
 by_cases he:fitsE r fs ds=0
 ·have hm:matchV r fs ds=.tup [mAV (matchR (fitsD r fs ds) ds.length).1,.int .i64 0]:=by unfold matchV;rw [if_neg (fun q=>q he)]
  have h24:=c16 r fs ds hf hd
  rw [if_neg (fun q=>q he)] at h24
  obtain ⟨hf6,hd6⟩:=fits_len he
  refine ACalls.ofS tab Tryz.call18 Tryz.func18 rfl (fi:=⟨30,[],[3,4],none,[]⟩) rfl rfl (Nat.le_of_ble_eq_true rfl) ?_
  unfold startA
  try simp only[go_sem]
  refine asem_seq (fi:=⟨30,[],[3,4],none,[]⟩) tab mixed (by decide) ?_
  repeat' (first|refine st_reg rfl (by first|(simp only[go_sem];rfl)|rfl) (by first|(simp only[go_sem];rfl)|rfl) ?_|refine st_op ?_|refine st_det rfl (by simp (disch:=omega) only[go_sem,wr_i64];rfl) ?_|refine st_nil ?_|refine st_tN ?_)
  refine asem_seq (fi:=⟨30,[],[3,4],none,[]⟩) tab mixed (by decide) ?_
  repeat' (first|refine st_reg rfl (by first|(simp only[go_sem,List.append_nil];rfl)|rfl) (by first|(simp only[go_sem,List.append_nil];rfl)|rfl) ?_|refine st_op ?_|refine st_det rfl (by simp (disch:=omega) only[go_sem,wr_i64,List.append_nil];rfl) ?_|refine st_heap rfl (by simp (disch:=omega) only[go_sem,wr_i64,List.append_nil];rfl) ?_|refine st_store (by simp (disch:=omega) only[go_sem,wr_i64,List.append_nil];rfl) ?_|(refine st_pureE (by first|(simp (disch:=omega) only[go_sem,List.append_nil];rfl)|rfl) rfl (h24) (by first|(simp only[go_sem,List.append_nil];rfl)|rfl) (by intro n;first|(simp (disch:=omega) only[go_sem];rfl)|rfl) ?_;intro n hn)|refine st_nil ?_|refine st_tN ?_)
  refine asem_seq (fi:=⟨30,[],[3,4],none,[]⟩) tab mixed (by decide) ?_
  repeat' (first|refine st_seq_reg rfl (by first|(simp only[go_sem];rfl)|rfl) (by first|(simp only[go_sem];rfl)|rfl) ?_|refine st_op ?_|refine st_det rfl (by simp (disch:=omega) only[go_sem,wr_i64];rfl) ?_|refine st_condF rfl ?_|refine st_nil ?_|refine st_tN ?_|refine st_skip ?_)
  refine ASem.frzT 8 (b:=(h.clk+1,8)) (z:=1) (row:=[.lst 1 ((fitsD r fs ds).map bvs)]) (by simp only[go_sem,↓reduceIte]) (by simp only[go_sem,↓reduceIte,Nat.reduceEqDiff]) ?_
  refine asem_seq (fi:=⟨30,[],[3,4],none,[]⟩) tab mixed (by decide) ?_
  repeat' (first|refine st_reg rfl (by first|(simp only[go_sem];rfl)|rfl) (by first|(simp only[go_sem];rfl)|rfl) ?_|refine st_op ?_|refine st_heap rfl (by simp (disch:=omega) only[go_sem,wr_i64];rfl) ?_|refine st_nil ?_|refine st_tN ?_)
  refine asem_seq (fi:=⟨30,[],[3,4],none,[]⟩) tab mixed (by decide) ?_
  repeat' (first|refine st_reg rfl (by first|(simp only[go_sem,Lm];rfl)|rfl) (by first|(simp only[go_sem,Lm];rfl)|rfl) ?_|refine st_op ?_|refine st_det rfl (by simp (disch:=omega) only[go_sem,wr_i64,Lm];rfl) ?_|refine st_heap rfl (by simp (disch:=omega) only[go_sem,wr_i64,Lm];rfl) ?_|refine st_store (by simp (disch:=omega) only[go_sem,wr_i64,Lm];rfl) ?_|refine st_nil ?_|refine st_tN ?_)
  refine asem_seq (fi:=⟨30,[],[3,4],none,[]⟩) tab mixed (by decide) ?_
  repeat' (first|refine st_reg rfl (by first|(simp only[go_sem];rfl)|rfl) (by first|(simp only[go_sem];rfl)|rfl) ?_|refine st_op ?_|refine st_heap rfl (by simp (disch:=omega) only[go_sem,wr_i64];rfl) ?_|refine st_nil ?_|refine st_tN ?_)
  refine asem_seq (fi:=⟨30,[],[3,4],none,[]⟩) tab mixed (by decide) ?_
  repeat' (first|refine st_reg rfl (by first|(simp only[go_sem];rfl)|rfl) (by first|(simp only[go_sem];rfl)|rfl) ?_|refine st_op ?_|refine st_det rfl (by simp (disch:=omega) only[go_sem,wr_i64];rfl) ?_|refine st_store (by simp (disch:=omega) only[go_sem,wr_i64];rfl) ?_|refine st_nil ?_|refine st_tN ?_)
  refine ASem.knot (b:=(n+1+1+1,12)) (g:=.func 59) (cap:=mcap fs ds (fitsD r fs ds) (n+1+1,11) (n+1,10)) 12 (ds.length+1+1) (by simp only[go_sem,↓reduceIte,Nat.reduceEqDiff]) (by simp only[go_sem,↓reduceIte];rfl) ?_
  simp only[knot_m]
  refine asem_awp (fi:=⟨30,[],[3,4],none,[]⟩) tab mixed (by decide) ?_
  repeat' (first|refine st_seq_reg rfl (by first|(simp only[go_sem];rfl)|rfl) (by first|(simp only[go_sem];rfl)|rfl) ?_|refine st_op ?_|refine st_det rfl (by simp (disch:=omega) only[go_sem,wr_i64];rfl) ?_|(refine st_call (args:=[.nils,.int .i64 0]) rfl rfl rfl (c59 fs ds (fitsD r fs ds) (by simp [fitsD]) (fun i hi=>by simp [fitsD,List.getD_eq_getElem?_getD,hi]) hf6 hd6 (n+1+1,11) (n+1,10) (by simp) (n+1+1+1) (by show n+1+1 < n+1+1+1;omega) (by show n+1 < n+1+1+1;omega) (ds.length+1) (ds.length+1) [] 0 ([],ds.length+1) .nils _ (Nat.le_refl _) (by simp) (Nat.zero_le _) (Nat.zero_le _) ⟨by simp (disch:=omega) only[go_sem,↓reduceIte];rfl,by simp (disch:=omega) only[go_sem,↓reduceIte];rfl⟩ (.inl ⟨rfl,rfl⟩) (fun _=>rfl) (by show n+1+1+1≤_;simp only[go_sem];omega)) ?_;rintro v3 h3 ⟨m3,k3,fr3,lp3⟩)|refine st_nil ?_)
  have m3b:=m3.b
  have hnl:=mAV_noL (matchR (fitsD r fs ds) ds.length).1
  have eR:tryM (fitsD r fs ds) ds.length (ds.length+1) [] 0 ([],ds.length+1)=matchR (fitsD r fs ds) ds.length:=rfl
  rw [eR] at m3b
  repeat' (first|refine st_op ?_|refine st_det rfl (by simp (disch:=omega) only[go_sem,wr_i64,m3b,hnl];rfl) ?_|refine st_nil ?_|refine st_ret ?_)
  simp (disch:=omega) only[AEnd,Tryz.results18,aresK,fin,go_sem,implies_true,true_and,and_true,List.reverse_cons,List.reverse_nil]
  rw [hm]
  have hq:∀ (b:Bid) (m:Nat × Nat),b.1 < h.clk→h.clk≤m.1→b ≠ m:=fun b m q1 q2 e=>by rw [e] at q1;omega
  refine ⟨hnl,fun b hb=>?_,lp3,rfl⟩
  have q1:=hq b (n+1+1,11) hb (by show h.clk≤n+1+1;omega)
  have q2:=hq b (n+1,10) hb (by show h.clk≤n+1;omega)
  have q3:=hq b (h.clk+1,8) hb (by show h.clk≤h.clk+1;omega)
  have q4:=hq b (n+1+1+1,12) hb (by show h.clk≤n+1+1+1;omega)
  rw [fr3 b (by omega) q1 q2,put_ne _ _ q4,put_ne _ _ q1,put_ne _ _ q2,put_ne _ _ q3];rfl
 ·have hm:matchV r fs ds=.tup [.nils,.int .i64 (fitsE r fs ds)]:=by unfold matchV;rw [if_pos he]
  have h24:=c16 r fs ds hf hd
  rw [if_pos he] at h24
  refine ACalls.of tab mixed Tryz.call18 Tryz.func18 rfl (fi:=⟨30,[],[3,4],none,[]⟩) rfl rfl (Nat.le_of_ble_eq_true rfl) (by decide) ?_
  unfold startA
  try simp only[go_sem]
  repeat' (first|refine st_seq_reg rfl (by first|(simp only[go_sem];rfl)|rfl) (by first|(simp only[go_sem];rfl)|rfl) ?_|refine st_op ?_|refine st_det rfl (by simp (disch:=omega) only[go_sem,wr_i64];rfl) ?_|refine st_heap rfl (by simp (disch:=omega) only[go_sem,wr_i64];rfl) ?_|refine st_store (by simp (disch:=omega) only[go_sem,wr_i64];rfl) ?_|(refine st_pureE (by first|(simp (disch:=omega) only[go_sem];rfl)|rfl) rfl (h24) (by first|(simp only[go_sem];rfl)|rfl) (by intro n;first|(simp (disch:=omega) only[go_sem];rfl)|rfl) ?_;intro n hn)|(refine st_condS rfl ?_ ?_ <;> intro hg <;> (try simp only[dcT,dcF,bnT,bnF] at hg))|refine st_nil ?_|refine st_tN ?_|refine st_seq ?_|refine st_skip ?_|refine st_ret ?_|refine st_tR ?_)
  ·simp (disch:=omega) only[AEnd,Tryz.results18,aresK,fin,go_sem,implies_true,true_and,and_true,List.reverse_cons,List.reverse_nil]
   rw [hm]
   refine ⟨fun b hb=>if_neg (fun e=>by rw [e] at hb;exact absurd hb (by show ¬ h.clk+1 < h.clk;omega)),rfl⟩
  ·exact absurd he (by omega)
end Go.Proofs.YtaijkalhkgjakaaGreatDoor

namespace Go.Proofs.YtaijkalhkgjakaaGreatDoor
open Go.Av
attribute [local irreducible] thenA blockA awp awpOps awpD awp1
attribute [local go_sem_proc] Nat.reduceAdd Nat.reduceMul Nat.reduceEqDiff Nat.reduceBEq Nat.reduceLeDiff
attribute [local go_sem_proc ↓] reduceIte
attribute [local go_sem] if_yes if_no
set_option maxHeartbeats 8000000
set_option maxRecDepth 20000
def exShop:Sp:=⟨[⟨true,false,false⟩,⟨false,true,true⟩,⟨false,false,true⟩],[⟨0,1,3⟩,⟨0,3,2⟩,⟨1,2,4⟩,⟨1,3,2⟩]⟩
def exF:List Fl:=[⟨100,30,20,80,50,100,50,40,[]⟩,⟨100,30,20,80,50,400,50,40,[]⟩]
def exD:List (List Ld):=[[⟨30,10,20,50,60,1,0⟩],[⟨70,200,300,30,30,1,0⟩]]
def exR:List Hu:=[⟨3,450,400⟩]
theorem ex_bnd:bndV exShop=(6,0):=by decide +kernel
theorem ex_best:bestD exShop=([⟨0,0⟩,⟨2,3⟩,⟨1,0⟩,⟨1,4⟩],6):=by decide +kernel
theorem ex_fits:fitsE exR exF exD=0:=by decide +kernel
theorem ex_match:matchR (fitsD exR exF exD) 2=([1,0],0):=by decide +kernel
theorem c67 (a b:Int):Pure Tryz.prog 67 [.int .i64 a,.int .i64 b] (fun v=>v=.agg [.int .i64 a,.int .i64 b]):=by
 intro h
 refine ACalls.forget (ACalls.of tab mixed Tryz.call67 Tryz.func67 rfl (fi:=⟨8,[4],[],none,[]⟩) rfl rfl (Nat.le_of_ble_eq_true rfl) (by decide) ?_)
 unfold startA
 try simp only[go_sem]
 repeat' (first|refine st_seq_reg rfl (by first|(simp only[go_sem];rfl)|rfl) (by first|(simp only[go_sem];rfl)|rfl) ?_|refine st_op ?_|refine st_det rfl (by simp (disch:=omega) only[go_sem,wr_i64];rfl) ?_|refine st_loc rfl (by simp (disch:=omega) only[go_sem,wr_i64];rfl) ?_|refine st_store (by simp (disch:=omega) only[go_sem,wr_i64];rfl) ?_|refine st_nil ?_|refine st_ret ?_)
 simp (disch:=omega) only[AEnd,Tryz.results67,aresK,fin,go_sem,implies_true,true_and,and_true,List.reverse_cons,List.reverse_nil]
theorem c29:Pure Tryz.prog 29 [] (fun v=>v=.lst 3 (exR.map Hu.row)):=by
 intro h
 refine ACalls.forget (ACalls.of tab mixed Tryz.call29 Tryz.func29 rfl (fi:=⟨3,[],[2],none,[]⟩) rfl rfl (Nat.le_of_ble_eq_true rfl) (by decide) ?_)
 unfold startA
 try simp only[go_sem]
 repeat' (first|refine st_seq_reg rfl (by first|(simp only[go_sem];rfl)|rfl) (by first|(simp only[go_sem];rfl)|rfl) ?_|refine st_op ?_|refine st_det rfl (by simp (disch:=omega) only[go_sem,wr_i64];rfl) ?_|refine st_nil ?_|refine st_ret ?_)
 simp (disch:=omega) only[AEnd,Tryz.results29,aresK,fin,go_sem,implies_true,true_and,and_true,List.reverse_cons,List.reverse_nil]
 rfl
theorem c25:Pure Tryz.prog 25 [] (fun v=>v=exShop.av):=by
 intro h
 refine ACalls.forget (ACalls.of tab mixed Tryz.call25 Tryz.func25 rfl (fi:=⟨11,[0],[4,9],none,[]⟩) rfl rfl (Nat.le_of_ble_eq_true rfl) (by decide) ?_)
 unfold startA
 try simp only[go_sem]
 repeat' (first|refine st_seq_reg rfl (by first|(simp only[go_sem];rfl)|rfl) (by first|(simp only[go_sem];rfl)|rfl) ?_|refine st_op ?_|refine st_det rfl (by simp (disch:=omega) only[go_sem,wr_i64];rfl) ?_|refine st_loc rfl (by simp (disch:=omega) only[go_sem,wr_i64];rfl) ?_|refine st_store (by simp (disch:=omega) only[go_sem,wr_i64];rfl) ?_|refine st_nil ?_|refine st_ret ?_)
 simp (disch:=omega) only[AEnd,Tryz.results25,aresK,fin,go_sem,implies_true,true_and,and_true,List.reverse_cons,List.reverse_nil]
 rfl
theorem c27:Pure Tryz.prog 27 [] (fun v=>v=.lst 9 (exF.map Fl.row)):=by
 refine Pure.give Tryz.call27 fun h hold=>?_
 refine ACalls.of tab mixed Tryz.call27 Tryz.func27 rfl (fi:=⟨9,[1,2],[8],none,[]⟩) rfl rfl (Nat.le_of_ble_eq_true rfl) (by decide) ?_
 unfold startA
 try simp only[go_sem]
 repeat' (first|refine st_seq_reg rfl (by first|(simp only[go_sem];rfl)|rfl) (by first|(simp only[go_sem];rfl)|rfl) ?_|refine st_op ?_|refine st_det rfl (by simp (disch:=omega) only[go_sem,wr_i64];rfl) ?_|refine st_loc rfl (by simp (disch:=omega) only[go_sem,wr_i64];rfl) ?_|refine st_store (by simp (disch:=omega) only[go_sem,wr_i64];rfl) ?_|refine st_nil ?_|refine st_ret ?_)
 simp (disch:=omega) only[AEnd,Tryz.results27,aresK,fin,go_sem,implies_true,true_and,and_true,List.reverse_cons,List.reverse_nil]
 refine .inl ⟨_,VLe.lst (es':=exF.map Fl.row) ?_ (by decide),rfl⟩
 simp only[exF,List.map,Fl.row,VLess,VLes]
 exact ⟨_,_,rfl,⟨_,_,rfl,VLe.refl _,_,_,rfl,VLe.refl _,_,_,rfl,VLe.refl _,_,_,rfl,VLe.refl _,_,_,rfl,VLe.refl _,_,_,rfl,VLe.refl _,_,_,rfl,VLe.refl _,_,_,rfl,VLe.refl _,_,_,rfl,VLe.nils 7,rfl⟩,_,_,rfl,⟨_,_,rfl,VLe.refl _,_,_,rfl,VLe.refl _,_,_,rfl,VLe.refl _,_,_,rfl,VLe.refl _,_,_,rfl,VLe.refl _,_,_,rfl,VLe.refl _,_,_,rfl,VLe.refl _,_,_,rfl,VLe.refl _,_,_,rfl,VLe.nils 7,rfl⟩,rfl⟩
theorem c28:Pure Tryz.prog 28 [] (fun v=>v=.lst 1 (exD.map dsR)):=by
 intro h
 refine ACalls.forget (ACalls.of tab mixed Tryz.call28 Tryz.func28 rfl (fi:=⟨10,[],[4,8,9],none,[]⟩) rfl rfl (Nat.le_of_ble_eq_true rfl) (by decide) ?_)
 unfold startA
 try simp only[go_sem]
 repeat' (first|refine st_seq_reg rfl (by first|(simp only[go_sem];rfl)|rfl) (by first|(simp only[go_sem];rfl)|rfl) ?_|refine st_op ?_|refine st_det rfl (by simp (disch:=omega) only[go_sem,wr_i64];rfl) ?_|(refine st_pureE (by first|(simp (disch:=omega) only[go_sem];rfl)|rfl) rfl (c67 _ _) (by first|(simp only[go_sem];rfl)|rfl) (by intro n;first|(simp (disch:=omega) only[go_sem];rfl)|rfl) ?_;intro n hn)|refine st_nil ?_|refine st_ret ?_)
 simp (disch:=omega) only[AEnd,Tryz.results28,aresK,fin,go_sem,implies_true,true_and,and_true,List.reverse_cons,List.reverse_nil]
 rfl
theorem c33 (w d:Int):Pure Tryz.prog 33 [.int .i64 w,.int .i64 d] (fun v=>v=.lst 2 (([⟨0,0⟩,⟨w,d⟩,⟨1,0⟩,⟨1,4⟩]:List Sf).map Sf.row)):=by
 intro h
 refine ACalls.forget (ACalls.of tab mixed Tryz.call33 Tryz.func33 rfl (fi:=⟨12,[],[11],none,[]⟩) rfl rfl (Nat.le_of_ble_eq_true rfl) (by decide) ?_)
 unfold startA
 try simp only[go_sem]
 repeat' (first|refine st_seq_reg rfl (by first|(simp only[go_sem];rfl)|rfl) (by first|(simp only[go_sem];rfl)|rfl) ?_|refine st_op ?_|refine st_det rfl (by simp (disch:=omega) only[go_sem,wr_i64];rfl) ?_|refine st_nil ?_|refine st_ret ?_)
 simp (disch:=omega) only[AEnd,Tryz.results33,aresK,fin,go_sem,implies_true,true_and,and_true,List.reverse_cons,List.reverse_nil]
theorem eq_stop {l m:List Int} (h:l.length=m.length) (k:∀ i,i < l.length→l.getD i 0=m.getD i 0):l=m:=by
 apply List.ext_getElem? 
 intro i
 by_cases hi:i < l.length
 ·have:=k i hi
  rw [List.getD_eq_getElem?_getD,List.getD_eq_getElem?_getD,List.getElem?_eq_getElem hi,List.getElem?_eq_getElem (by omega:i < m.length)] at this
  rw [List.getElem?_eq_getElem hi,List.getElem?_eq_getElem (by omega:i < m.length)]
  simpa using this
 ·rw [List.getElem?_eq_none (by omega),List.getElem?_eq_none (by omega)]
theorem c21 (l m:List Int) (hl:(l.length:Int) < 1000000) (hm:(m.length:Int) < 1000000):Pure Tryz.prog 21 [.lst 1 (l.map iv),.lst 1 (m.map iv)] (fun v=>v=.bool (decide (l=m))):=by
 intro h
 refine ACalls.forget (ACalls.of tab mixed Tryz.call21 Tryz.func21 rfl (fi:=⟨26,[],[],none,[(6,[0,0,3,7,0,0,48,112,255],[(0,false),(1,false),(2,false),(3,true),(4,false),(5,false),(6,false),(7,true),(8,false)])]⟩) rfl rfl (Nat.le_of_ble_eq_true rfl) (by decide) ?_)
 unfold startA
 try simp only[go_sem]
 repeat' (first|refine st_seq_reg rfl (by first|(simp only[go_sem,Lm];rfl)|rfl) (by first|(simp only[go_sem,Lm];rfl)|rfl) ?_|refine st_op ?_|refine st_det rfl (by simp (disch:=omega) only[go_sem,wr_i64,Lm];rfl) ?_|(refine st_condS rfl ?_ ?_ <;> intro hg <;> (try simp only[dcT,dcF,bnT,bnF] at hg))|refine st_nil ?_|refine st_tN ?_|refine st_seq ?_|refine st_block ?_|refine st_skip ?_|refine st_ret ?_|refine st_tR ?_)
 ·simp (disch:=omega) only[AEnd,Tryz.results21,aresK,fin,go_sem,implies_true,true_and,and_true,List.reverse_cons,List.reverse_nil]
  have:¬ l=m:=fun e=>by rw [e] at hg;exact hg rfl
  simp [this]
 refine st_loopC (α:=Nat) tab mixed [] [] (by repeat (first|exact trivial|refine ⟨rfl,?_⟩)) [] [] (by repeat (first|exact trivial|refine ⟨rfl,?_⟩)) (fun i=>[(5,.int .i64 (i:Nat))]) [(0,_),(1,_),(4,_)] (fun _=>[]) [] (fun i=>i≤l.length∧∀ k,k < i→l.getD k 0=m.getD k 0) (fun i=>l.length - i) (by decide) 0 ⟨Nat.zero_le _,fun k hk=>absurd hk (Nat.not_lt_zero k)⟩ (by (try simp only[go_sem]);repeat' (first|exact trivial|refine And.intro ?_ ?_|rfl|(simp (disch:=omega) only[go_sem,if_yes,if_no,if_no];rfl)|(simp (disch:=omega) only[go_sem,if_yes,if_no,if_no]))) (by (try simp only[go_sem]);repeat' (first|exact trivial|refine And.intro ?_ ?_|rfl|(simp (disch:=omega) only[go_sem,if_yes,if_no,if_no];rfl)|(simp (disch:=omega) only[go_sem,if_yes,if_no,if_no]))) (by first|(simp only[go_sem];rfl)|rfl) (by intro n;simp only[go_sem];rfl) ?_
 rintro i c ⟨hi,hall⟩ hc
 simp only[go_sem]
 repeat' (first|refine st_seq_reg rfl (by first|(simp only[go_sem,Lm];rfl)|rfl) (by first|(simp only[go_sem,Lm];rfl)|rfl) ?_|refine st_reg rfl (by first|(simp only[go_sem,Lm];rfl)|rfl) (by first|(simp only[go_sem,Lm];rfl)|rfl) ?_|refine st_seq_draw rfl (by first|(simp only[go_sem,Lm];rfl)|rfl) (by first|(simp only[go_sem,Lm];rfl)|rfl) ?_|refine st_op ?_|refine st_det rfl (by simp (disch:=omega) only[go_sem,wr_i64,Lm];rfl) ?_|refine st_dop rfl ?_|(refine st_condS rfl ?_ ?_ <;> intro hg <;> (try simp only[dcT,dcF,bnT,bnF] at hg))|refine st_nil ?_|refine st_dnil ?_|refine st_tN ?_|refine st_seq ?_|refine st_block ?_|refine st_skip ?_|refine st_exit ?_|refine st_ret ?_|refine st_tE ?_|refine st_tR ?_|refine st_bN ?_|refine st_bR ?_|refine st_bH ?_)
 all_goals try (exfalso;omega)
 ·simp (disch:=omega) only[AEnd,Tryz.results21,aresK,fin,go_sem,implies_true,true_and,and_true,List.reverse_cons,List.reverse_nil]
  have:¬ l=m:=fun e=>by rw [e] at hg;exact hg rfl
  simp [this]
 ·refine ⟨i+1,⟨by omega,stepP hall (Decidable.of_not_not hg)⟩,by omega,(by repeat' (first|exact trivial|refine And.intro ?_ ?_|rfl|(simp (disch:=omega) only[go_sem,if_yes,if_no,if_no];rfl)|(simp (disch:=omega) only[go_sem,if_yes,if_no,if_no]))),(by repeat' (first|exact trivial|refine And.intro ?_ ?_|rfl|(simp (disch:=omega) only[go_sem,if_yes,if_no,if_no];rfl)|(simp (disch:=omega) only[go_sem,if_yes,if_no,if_no]))),rfl,(by first|exact HOld.of _ (by omega)|exact HOld.put _ _ _ (by omega))⟩
 ·simp (disch:=omega) only[AEnd,Tryz.results21,aresK,fin,go_sem,implies_true,true_and,and_true,List.reverse_cons,List.reverse_nil]
  have:l=m:=eq_stop (by omega) (fun k hk=>hall k (by omega))
  simp [this]
theorem sf_stop {p q:List Sf} (h:p.length=q.length) (k:∀ i,i < p.length→pAt p i=pAt q i):p=q:=by
 apply List.ext_getElem? 
 intro i
 by_cases hi:i < p.length
 ·have:=k i hi
  unfold pAt at this
  rw [List.getD_eq_getElem?_getD,List.getD_eq_getElem?_getD,List.getElem?_eq_getElem hi,List.getElem?_eq_getElem (by omega:i < q.length)] at this
  rw [List.getElem?_eq_getElem hi,List.getElem?_eq_getElem (by omega:i < q.length)]
  simpa using this
 ·rw [List.getElem?_eq_none (by omega),List.getElem?_eq_none (by omega)]
theorem sf_step {p q:List Sf} {i:Nat} (h:p.length=q.length∧∀ k,k < i→pAt p k=pAt q k) :
  decide ([(IntKind.i64,(pAt p i).w),(IntKind.i64,(pAt p i).d)]=[(IntKind.i64,(pAt q i).w),(IntKind.i64,(pAt q i).d)])=true ↔ p.length=q.length∧∀ k,k < i+1→pAt p k=pAt q k:=by
 rw [decide_eq_true_eq]
 constructor
 ·intro e
  simp only[List.cons.injEq,Prod.mk.injEq,true_and,and_true] at e
  refine ⟨h.1,stepP h.2 ?_⟩
  cases hp:pAt p i;cases hq:pAt q i
  simp_all
 ·intro e
  rw [e.2 i (Nat.lt_succ_self i)]
theorem c37 (p q:List Sf) (hl:(p.length:Int) < 1000000) (hm:(q.length:Int) < 1000000):Pure Tryz.prog 37 [.lst 2 (p.map Sf.row),.lst 2 (q.map Sf.row)] (fun v=>v=.bool (decide (p=q))):=by
 intro h
 refine ACalls.forget (ACalls.of tab mixed Tryz.call37 Tryz.func37 rfl (fi:=⟨31,[],[],none,[(5,[0,0,3,7,0,0,48,112,255,511],[(0,false),(1,false),(2,false),(3,true),(4,false),(5,false),(6,false),(7,true),(8,false),(9,false)])]⟩) rfl rfl (Nat.le_of_ble_eq_true rfl) (by decide) ?_)
 unfold startA
 try simp only[go_sem]
 repeat' (first|refine st_seq_reg rfl (by first|(simp only[go_sem,Lm];rfl)|rfl) (by first|(simp only[go_sem,Lm];rfl)|rfl) ?_|refine st_op ?_|refine st_det rfl (by simp (disch:=omega) only[go_sem,wr_i64,Lm];rfl) ?_|refine st_nil ?_|refine st_seq ?_|refine st_block ?_)
 refine st_loopC (α:=Nat × Bool) tab mixed [] [] (by repeat (first|exact trivial|refine ⟨rfl,?_⟩)) [] [] (by repeat (first|exact trivial|refine ⟨rfl,?_⟩)) (fun a=>[(6,.int .i64 (a.1:Nat)),(5,.bool a.2)]) [(0,_),(1,_),(4,_)] (fun _=>[]) [] (fun a=>a.1≤p.length∧(a.2=true ↔ p.length=q.length∧∀ k,k < a.1→pAt p k=pAt q k)) (fun a=>p.length - a.1) (by decide) (0,decide ((p.length:Int)=q.length)) ⟨Nat.zero_le _,by rw [decide_eq_true_eq];exact ⟨fun e=>⟨by omega,fun k hk=>absurd hk (Nat.not_lt_zero k)⟩,fun e=>by omega⟩⟩ (by (try simp only[go_sem]);repeat' (first|exact trivial|refine And.intro ?_ ?_|rfl|(simp (disch:=omega) only[go_sem,if_yes,if_no,if_no];rfl)|(simp (disch:=omega) only[go_sem,if_yes,if_no,if_no]))) (by (try simp only[go_sem]);repeat' (first|exact trivial|refine And.intro ?_ ?_|rfl|(simp (disch:=omega) only[go_sem,if_yes,if_no,if_no];rfl)|(simp (disch:=omega) only[go_sem,if_yes,if_no,if_no]))) (by first|(simp only[go_sem];rfl)|rfl) (by intro n;simp only[go_sem];rfl) ?_
 rintro ⟨i,b⟩ c ⟨hi,hb⟩ hc
 dsimp only at hi hb
 simp only[go_sem]
 cases b with
 | false =>
  repeat' (first|refine st_seq_reg rfl (by first|(simp only[go_sem,Lm];rfl)|rfl) (by first|(simp only[go_sem,Lm];rfl)|rfl) ?_|refine st_op ?_|refine st_det rfl (by simp (disch:=omega) only[go_sem,wr_i64,Lm];rfl) ?_|refine st_gF rfl rfl rfl ?_|refine st_condF rfl ?_|refine st_nil ?_|refine st_tN ?_|refine st_seq ?_|refine st_exit ?_|refine st_ret ?_|refine st_tE ?_|refine st_bH ?_)
  simp (disch:=omega) only[AEnd,Tryz.results37,aresK,fin,go_sem,implies_true,true_and,and_true,List.reverse_cons,List.reverse_nil]
  have:¬ p=q:=fun e=>by
   have:=hb.2 ⟨by rw [e],fun k _=>by rw [e]⟩
   cases this
  simp [this]
 | true =>
  have hb:=hb.1 rfl
  have hlq:=hb.1
  repeat' (first|refine st_seq_reg rfl (by first|(simp only[go_sem,Lm];rfl)|rfl) (by first|(simp only[go_sem,Lm];rfl)|rfl) ?_|refine st_reg rfl (by first|(simp only[go_sem,Lm];rfl)|rfl) (by first|(simp only[go_sem,Lm];rfl)|rfl) ?_|refine st_draw rfl (by first|(simp only[go_sem,Lm];rfl)|rfl) (by first|(simp only[go_sem,Lm];rfl)|rfl) ?_|refine st_op ?_|refine st_det rfl (by simp (disch:=omega) only[go_sem,wr_i64,Lm];rfl) ?_|refine st_dop rfl ?_|refine st_gT rfl rfl rfl ?_|(refine st_condS rfl ?_ ?_ <;> intro hg <;> (try simp only[dcT,dcF,bnT,bnF] at hg))|refine st_nil ?_|refine st_dnil ?_|refine st_tN ?_|refine st_seq ?_|refine st_block ?_|refine st_skip ?_|refine st_exit ?_|refine st_ret ?_|refine st_tE ?_|refine st_bN ?_|refine st_bH ?_)
  all_goals try (exfalso;omega)
  ·refine ⟨(i+1,decide ([(IntKind.i64,(pAt p i).w),(IntKind.i64,(pAt p i).d)]=[(IntKind.i64,(pAt q i).w),(IntKind.i64,(pAt q i).d)])),⟨by show i+1≤p.length;omega,by exact sf_step hb⟩,by show p.length - (i+1) < p.length - i;omega,(by repeat' (first|exact trivial|refine And.intro ?_ ?_|rfl|(simp (disch:=omega) only[go_sem,if_yes,if_no,if_no];rfl)|(simp (disch:=omega) only[go_sem,if_yes,if_no,if_no]))),(by repeat' (first|exact trivial|refine And.intro ?_ ?_|rfl|(simp (disch:=omega) only[go_sem,if_yes,if_no,if_no];rfl)|(simp (disch:=omega) only[go_sem,if_yes,if_no,if_no]))),rfl,HOld.of _ (by omega)⟩
  ·simp (disch:=omega) only[AEnd,Tryz.results37,aresK,fin,go_sem,implies_true,true_and,and_true,List.reverse_cons,List.reverse_nil]
   have:p=q:=sf_stop hlq (fun k hk=>hb.2 k (by omega))
   simp [this]
def exPlan:List Sf:=[⟨0,0⟩,⟨2,3⟩,⟨1,0⟩,⟨1,4⟩]
theorem c18e:Pure Tryz.prog 18 [.lst 9 (exF.map Fl.row),.lst 1 (exD.map dsR),.lst 3 (exR.map Hu.row)] (fun v=>v=.tup [.lst 1 (([1,0]:List Int).map iv),.int .i64 0]):=by
 have h:=c18 exR exF exD (by decide) (by decide)
 have e:matchV exR exF exD=.tup [.lst 1 (([1,0]:List Int).map iv),.int .i64 0]:=by
  unfold matchV
  rw [if_neg (fun q=>q ex_fits),show exD.length=2 from rfl,ex_match];rfl
 rwa [e] at h
theorem c34e:PureG gB Tryz.prog 34 [exShop.av] (fun v=>v=.tup [.lst 2 (exPlan.map Sf.row),.int .i64 6,.int .i64 0]):=by
 have h:=c34 exShop
 have e:bestV exShop=.tup [.lst 2 (exPlan.map Sf.row),.int .i64 6,.int .i64 0]:=by
  unfold bestV
  rw [ex_bnd,ex_best,if_neg (by decide)];rfl
 rwa [e] at h
theorem c35e:PureG gB Tryz.prog 35 [exShop.av] (fun v=>v=.tup [.int .i64 6,.int .i64 0]):=by
 have h:=c35 exShop
 rwa [ex_bnd] at h
theorem c8:PureG gB Tryz.prog 8 [] (fun v=>v=.bool true):=by
 intro h hgl
 refine ACalls.forget (ACalls.of tab mixed Tryz.call8 Tryz.func8 rfl (fi:=⟨54,[],[46],none,[]⟩) rfl rfl (Nat.le_of_ble_eq_true rfl) (by decide) ?_)
 unfold startA
 try simp only[go_sem]
 repeat' (first|refine st_seq_reg rfl (by first|(simp only[go_sem];rfl)|rfl) (by first|(simp only[go_sem];rfl)|rfl) ?_|refine st_op ?_|refine st_det rfl (by simp (disch:=omega) only[go_sem,wr_i64];rfl) ?_|(refine st_pureE (by first|(simp (disch:=omega) only[go_sem];rfl)|rfl) rfl (c27) (by first|(simp only[go_sem];rfl)|rfl) (by intro n;first|(simp (disch:=omega) only[go_sem];rfl)|rfl) ?_;intro n hn)|(refine st_pureE (by first|(simp (disch:=omega) only[go_sem];rfl)|rfl) rfl (c28) (by first|(simp only[go_sem];rfl)|rfl) (by intro n;first|(simp (disch:=omega) only[go_sem];rfl)|rfl) ?_;intro n hn)|(refine st_pureE (by first|(simp (disch:=omega) only[go_sem];rfl)|rfl) rfl (c29) (by first|(simp only[go_sem];rfl)|rfl) (by intro n;first|(simp (disch:=omega) only[go_sem];rfl)|rfl) ?_;intro n hn)|(refine st_pureE (by first|(simp (disch:=omega) only[go_sem];rfl)|rfl) rfl (c18e) (by first|(simp only[go_sem];rfl)|rfl) (by intro n;first|(simp (disch:=omega) only[go_sem];rfl)|rfl) ?_;intro n hn)|(refine st_pureE (by first|(simp (disch:=omega) only[go_sem];rfl)|rfl) rfl (c25) (by first|(simp only[go_sem];rfl)|rfl) (by intro n;first|(simp (disch:=omega) only[go_sem];rfl)|rfl) ?_;intro n hn)|(refine st_pureGE (by first|(simp (disch:=omega) only[go_sem];rfl)|rfl) rfl (c34e) (by exact hgl) (by first|(simp only[go_sem];rfl)|rfl) (by intro n;first|(simp (disch:=omega) only[go_sem];rfl)|rfl) ?_;intro n hn)|(refine st_pureGE (by first|(simp (disch:=omega) only[go_sem];rfl)|rfl) rfl (c35e) (by exact hgl) (by first|(simp only[go_sem];rfl)|rfl) (by intro n;first|(simp (disch:=omega) only[go_sem];rfl)|rfl) ?_;intro n hn)|(refine st_pureE (by first|(simp (disch:=omega) only[go_sem];rfl)|rfl) rfl (c21 [1,0] [1,0] (by decide) (by decide)) (by first|(simp only[go_sem];rfl)|rfl) (by intro n;first|(simp (disch:=omega) only[go_sem];rfl)|rfl) ?_;intro n hn)|(refine st_pureE (by first|(simp (disch:=omega) only[go_sem];rfl)|rfl) rfl (c33 2 3) (by first|(simp only[go_sem];rfl)|rfl) (by intro n;first|(simp (disch:=omega) only[go_sem];rfl)|rfl) ?_;intro n hn)|(refine st_pureE (by first|(simp (disch:=omega) only[go_sem];rfl)|rfl) rfl (c37 exPlan exPlan (by decide) (by decide)) (by first|(simp only[go_sem];rfl)|rfl) (by intro n;first|(simp (disch:=omega) only[go_sem];rfl)|rfl) ?_;intro n hn)|refine st_gT rfl rfl rfl ?_|refine st_nil ?_|refine st_ret ?_)
 simp (disch:=omega) only[AEnd,Tryz.results8,aresK,fin,go_sem,implies_true,true_and,and_true,List.reverse_cons,List.reverse_nil]
end Go.Proofs.YtaijkalhkgjakaaGreatDoor

namespace Go.Proofs.YtaijkalhkgjakaaGreatDoor
open Go.Av
attribute [local irreducible] thenA blockA awp awpOps awpD awp1
attribute [local go_sem_proc] Nat.reduceAdd Nat.reduceMul Nat.reduceEqDiff Nat.reduceBEq Nat.reduceLeDiff
attribute [local go_sem_proc ↓] reduceIte
attribute [local go_sem] if_yes if_no
set_option maxHeartbeats 8000000
set_option maxRecDepth 20000
theorem jb_stop {p q:List Jb} (h:p.length=q.length) (k:∀ i,i < p.length→jOf p i=jOf q i):p=q:=by
 apply List.ext_getElem? 
 intro i
 by_cases hi:i < p.length
 ·have:=k i hi
  unfold jOf at this
  rw [List.getD_eq_getElem?_getD,List.getD_eq_getElem?_getD,List.getElem?_eq_getElem hi,List.getElem?_eq_getElem (by omega:i < q.length)] at this
  rw [List.getElem?_eq_getElem hi,List.getElem?_eq_getElem (by omega:i < q.length)]
  simpa using this
 ·rw [List.getElem?_eq_none (by omega),List.getElem?_eq_none (by omega)]
theorem jb_step {p q:List Jb} {i:Nat} (h:p.length=q.length∧∀ k,k < i→jOf p k=jOf q k) :
  decide ([(IntKind.i64,(jOf p i).f),(IntKind.i64,(jOf p i).s),(IntKind.i64,(jOf p i).d)]=[(IntKind.i64,(jOf q i).f),(IntKind.i64,(jOf q i).s),(IntKind.i64,(jOf q i).d)])=true ↔ p.length=q.length∧∀ k,k < i+1→jOf p k=jOf q k:=by
 rw [decide_eq_true_eq]
 constructor
 ·intro e
  simp only[List.cons.injEq,Prod.mk.injEq,true_and,and_true] at e
  refine ⟨h.1,stepP h.2 ?_⟩
  cases hp:jOf p i;cases hq:jOf q i
  simp_all
 ·intro e
  rw [e.2 i (Nat.lt_succ_self i)]
theorem c31 (p q:List Jb) (hl:(p.length:Int) < 1000000) (hm:(q.length:Int) < 1000000):Pure Tryz.prog 31 [.lst 3 (p.map Jb.row),.lst 3 (q.map Jb.row)] (fun v=>v=.bool (decide (p=q))):=by
 intro h
 refine ACalls.forget (ACalls.of tab mixed Tryz.call31 Tryz.func31 rfl (fi:=⟨31,[],[],none,[(5,[0,0,3,7,0,0,48,112,255,511],[(0,false),(1,false),(2,false),(3,true),(4,false),(5,false),(6,false),(7,true),(8,false),(9,false)])]⟩) rfl rfl (Nat.le_of_ble_eq_true rfl) (by decide) ?_)
 unfold startA
 try simp only[go_sem]
 repeat' (first|refine st_seq_reg rfl (by first|(simp only[go_sem,Lm];rfl)|rfl) (by first|(simp only[go_sem,Lm];rfl)|rfl) ?_|refine st_op ?_|refine st_det rfl (by simp (disch:=omega) only[go_sem,wr_i64,Lm];rfl) ?_|refine st_nil ?_|refine st_seq ?_|refine st_block ?_)
 refine st_loopC (α:=Nat × Bool) tab mixed [] [] (by repeat (first|exact trivial|refine ⟨rfl,?_⟩)) [] [] (by repeat (first|exact trivial|refine ⟨rfl,?_⟩)) (fun a=>[(6,.int .i64 (a.1:Nat)),(5,.bool a.2)]) [(0,_),(1,_),(4,_)] (fun _=>[]) [] (fun a=>a.1≤p.length∧(a.2=true ↔ p.length=q.length∧∀ k,k < a.1→jOf p k=jOf q k)) (fun a=>p.length - a.1) (by decide) (0,decide ((p.length:Int)=q.length)) ⟨Nat.zero_le _,by rw [decide_eq_true_eq];exact ⟨fun e=>⟨by omega,fun k hk=>absurd hk (Nat.not_lt_zero k)⟩,fun e=>by omega⟩⟩ (by (try simp only[go_sem]);repeat' (first|exact trivial|refine And.intro ?_ ?_|rfl|(simp (disch:=omega) only[go_sem,if_yes,if_no,if_no];rfl)|(simp (disch:=omega) only[go_sem,if_yes,if_no,if_no]))) (by (try simp only[go_sem]);repeat' (first|exact trivial|refine And.intro ?_ ?_|rfl|(simp (disch:=omega) only[go_sem,if_yes,if_no,if_no];rfl)|(simp (disch:=omega) only[go_sem,if_yes,if_no,if_no]))) (by first|(simp only[go_sem];rfl)|rfl) (by intro n;simp only[go_sem];rfl) ?_
 rintro ⟨i,b⟩ c ⟨hi,hb⟩ hc
 dsimp only at hi hb
 simp only[go_sem]
 cases b with
 | false =>
  repeat' (first|refine st_seq_reg rfl (by first|(simp only[go_sem,Lm];rfl)|rfl) (by first|(simp only[go_sem,Lm];rfl)|rfl) ?_|refine st_op ?_|refine st_det rfl (by simp (disch:=omega) only[go_sem,wr_i64,Lm];rfl) ?_|refine st_gF rfl rfl rfl ?_|refine st_condF rfl ?_|refine st_nil ?_|refine st_tN ?_|refine st_seq ?_|refine st_exit ?_|refine st_ret ?_|refine st_tE ?_|refine st_bH ?_)
  simp (disch:=omega) only[AEnd,Tryz.results31,aresK,fin,go_sem,implies_true,true_and,and_true,List.reverse_cons,List.reverse_nil]
  have:¬ p=q:=fun e=>by
   have:=hb.2 ⟨by rw [e],fun k _=>by rw [e]⟩
   cases this
  simp [this]
 | true =>
  have hb:=hb.1 rfl
  have hlq:=hb.1
  repeat' (first|refine st_seq_reg rfl (by first|(simp only[go_sem,Lm];rfl)|rfl) (by first|(simp only[go_sem,Lm];rfl)|rfl) ?_|refine st_reg rfl (by first|(simp only[go_sem,Lm];rfl)|rfl) (by first|(simp only[go_sem,Lm];rfl)|rfl) ?_|refine st_draw rfl (by first|(simp only[go_sem,Lm];rfl)|rfl) (by first|(simp only[go_sem,Lm];rfl)|rfl) ?_|refine st_op ?_|refine st_det rfl (by simp (disch:=omega) only[go_sem,wr_i64,Lm];rfl) ?_|refine st_dop rfl ?_|refine st_gT rfl rfl rfl ?_|(refine st_condS rfl ?_ ?_ <;> intro hg <;> (try simp only[dcT,dcF,bnT,bnF] at hg))|refine st_nil ?_|refine st_dnil ?_|refine st_tN ?_|refine st_seq ?_|refine st_block ?_|refine st_skip ?_|refine st_exit ?_|refine st_ret ?_|refine st_tE ?_|refine st_bN ?_|refine st_bH ?_)
  all_goals try (exfalso;omega)
  ·refine ⟨(i+1,decide ([(IntKind.i64,(jOf p i).f),(IntKind.i64,(jOf p i).s),(IntKind.i64,(jOf p i).d)]=[(IntKind.i64,(jOf q i).f),(IntKind.i64,(jOf q i).s),(IntKind.i64,(jOf q i).d)])),⟨by show i+1≤p.length;omega,by exact jb_step hb⟩,by show p.length - (i+1) < p.length - i;omega,(by repeat' (first|exact trivial|refine And.intro ?_ ?_|rfl|(simp (disch:=omega) only[go_sem,if_yes,if_no,if_no];rfl)|(simp (disch:=omega) only[go_sem,if_yes,if_no,if_no]))),(by repeat' (first|exact trivial|refine And.intro ?_ ?_|rfl|(simp (disch:=omega) only[go_sem,if_yes,if_no,if_no];rfl)|(simp (disch:=omega) only[go_sem,if_yes,if_no,if_no]))),rfl,HOld.of _ (by omega)⟩
  ·simp (disch:=omega) only[AEnd,Tryz.results31,aresK,fin,go_sem,implies_true,true_and,and_true,List.reverse_cons,List.reverse_nil]
   have:p=q:=jb_stop hlq (fun k hk=>hb.2 k (by omega))
   simp [this]
end Go.Proofs.YtaijkalhkgjakaaGreatDoor

namespace Go.Proofs.YtaijkalhkgjakaaGreatDoor
open Go.Av
attribute [local irreducible] thenA blockA awp awpOps awpD awp1
attribute [local go_sem_proc] Nat.reduceAdd Nat.reduceMul Nat.reduceEqDiff Nat.reduceBEq Nat.reduceLeDiff
attribute [local go_sem_proc ↓] reduceIte
attribute [local go_sem] if_yes if_no
set_option maxHeartbeats 8000000
set_option maxRecDepth 20000
def addJ (i:Nat) (s d:Int):List Jb:=if 0 < d then [⟨(i:Nat),s,d⟩] else []
def jobsAt (m:List Int) (w c p:Int) (i:Nat):List Jb:=(if m.getD i 0 < 0 then addJ i 1 w else []) ++ addJ i 2 c ++ addJ i 3 p
def outJ (m:List Int) (w c p:Int):Nat→List Jb
 | 0=>[]
 | i+1=>outJ m w c p i ++ jobsAt m w c p i
def jobsErr (m:List Int) (w c p:Int):Int :=
 if 6 < m.length then 5 else if ¬ ∀ k,k < m.length→-1≤m.getD k 0 then 2 else if ¬ (0≤w∧w≤30∧0≤c∧c≤30∧0≤p∧p≤30) then 2 else if 7 < (outJ m w c p m.length).length then 13 else 0
def jobsV (m:List Int) (w c p:Int):AV:=if jobsErr m w c p ≠ 0 then .tup [.nils,.int .i64 (jobsErr m w c p)] else .tup [.lst 3 ((outJ m w c p m.length).map Jb.row),.int .i64 0]
theorem addJ_len (i:Nat) (s d:Int):(addJ i s d).length≤1:=by unfold addJ;split <;> simp
theorem jobsAt_len (m:List Int) (w c p:Int) (i:Nat):(jobsAt m w c p i).length≤3:=by
 unfold jobsAt
 have h1:=addJ_len i 1 w
 have h2:=addJ_len i 2 c
 have h3:=addJ_len i 3 p
 simp only[List.length_append]
 split
 ·omega
 ·simp only[List.length_nil];omega
theorem outJ_len (m:List Int) (w c p:Int):∀ n,(outJ m w c p n).length≤3 * n:=by
 intro n
 induction n with
 | zero=>simp [outJ]
 | succ n ih=>have:=jobsAt_len m w c p n;simp only[outJ,List.length_append];omega
structure Fq (c0:Nat) (bp:Bid) (h g:AH):Prop where
 at_:∀ b:Bid,b.1 < c0→b ≠ bp→g.at_ b=h.at_ b
 lp:g.lp=h.lp
 clk:h.clk≤g.clk
theorem Fq.refl {c0:Nat} {bp:Bid} (h:AH):Fq c0 bp h h:=⟨fun _ _ _=>rfl,rfl,Nat.le_refl _⟩
theorem Fq.trans {c0:Nat} {bp:Bid} {h g k:AH} (a:Fq c0 bp h g) (b:Fq c0 bp g k):Fq c0 bp h k:=⟨fun x h1 h2=>(b.at_ x h1 h2).trans (a.at_ x h1 h2),b.lp.trans a.lp,Nat.le_trans a.clk b.clk⟩
theorem Fq.tick {c0:Nat} {bp:Bid} {h g:AH} (a:Fq c0 bp h g) {n:Nat} (hn:g.clk≤n):Fq c0 bp h (g.tick n):=⟨a.at_,a.lp,Nat.le_trans a.clk hn⟩
theorem c68 (i:Nat) (s d:Int) (bo:Bid) (c0:Nat) (hb:bo.1 < c0) (l:List Jb) (hl:l.length≤100) (v:AV) (h:AH) (hat:h.at_ bo=some ⟨1,[[v]]⟩) (hS:SlA c0 h v 3 (l.map Jb.row)) (hc0:c0≤h.clk) :
  ACalls Tryz.prog 68 [.int .i64 s,.int .i64 d,.ptr bo 0 0,.iptr [.int .i64 (i:Nat)] 0] h (fun _ h'=>∃ v',h'.at_ bo=some ⟨1,[[v']]⟩∧SlA c0 h' v' 3 ((l ++ addJ i s d).map Jb.row)∧Fq c0 bo h h'):=by
 have hnv:=hS.noL
 by_cases hd:0 < d
 ·have e:addJ i s d=[⟨(i:Nat),s,d⟩]:=by unfold addJ;rw [if_pos hd]
  rw [e]
  refine ACalls.of tab mixed Tryz.call68 Tryz.func68 rfl (fi:=⟨15,[],[13],none,[]⟩) rfl rfl (Nat.le_of_ble_eq_true rfl) (by decide) ?_
  unfold startA
  try simp only[go_sem]
  repeat' (first|refine st_seq_reg rfl (by first|(simp only[go_sem,hat,hnv];rfl)|rfl) (by first|(simp only[go_sem,hat,hnv];rfl)|rfl) ?_|refine st_reg rfl (by first|(simp only[go_sem,hat,hnv];rfl)|rfl) (by first|(simp only[go_sem,hat,hnv];rfl)|rfl) ?_|refine st_op ?_|refine st_det rfl (by simp (disch:=omega) only[go_sem,wr_i64,hat,hnv];rfl) ?_|(refine st_appS (by intro h id x y;simp only[go_sem];rfl) rfl (by simp only[go_sem,hat,hnv];rfl) (by first|(simp only[go_sem,hat,hnv];rfl)|rfl) (by decide) hS (fun _ _ _=>rfl) (by omega) (by simp only[Lm,List.length_cons,List.length_nil,big,hat,hnv];omega) (by omega) (by omega) ?_;intro v' g' hA)|(refine st_condS rfl ?_ ?_ <;> intro hg <;> (try simp only[dcT,dcF,bnT,bnF] at hg))|refine st_nil ?_|refine st_skip ?_)
  all_goals try (exfalso;omega)
  have hsl:=hA.sl
  have hcv:v'.cells=[v']:=by rcases hsl with ⟨rfl,_⟩|⟨b1,rfl,_⟩ <;> rfl
  have hce:=hsl.cell
  have hnv':=hsl.noL
  have hgb:g'.at_ bo=some ⟨1,[[v]]⟩:=by rw [hA.old bo hb];exact hat
  repeat' (first|refine st_store (by simp (disch:=omega) only[go_sem,wr_i64,hgb,hcv,hce,hnv',List.append_nil];rfl) ?_|refine st_nil ?_)
  simp (disch:=omega) only[AEnd,Tryz.results68,aresK,fin,go_sem,implies_true,true_and,and_true,List.reverse_cons,List.reverse_nil]
  refine ⟨v',by first|rfl|exact put_same _ _ _,?_,⟨fun b q1 q2=>?_,hA.lp,by first|(simp only[go_sem];omega)|omega⟩⟩
  ·rw [List.map_append]
   exact hsl.to (fun b1 m _ q1 _=>put_ne _ _ (fun e=>by rw [e] at q1;omega)) (Nat.le_refl _)
  ·rw [put_ne _ _ q2]
   show g'.at_ b=_
   rw [hA.old b q1];rfl
 ·have e:addJ i s d=[]:=by unfold addJ;rw [if_neg hd]
  rw [e]
  refine ACalls.of tab mixed Tryz.call68 Tryz.func68 rfl (fi:=⟨15,[],[13],none,[]⟩) rfl rfl (Nat.le_of_ble_eq_true rfl) (by decide) ?_
  unfold startA
  try simp only[go_sem]
  repeat' (first|refine st_seq_reg rfl (by first|(simp only[go_sem];rfl)|rfl) (by first|(simp only[go_sem];rfl)|rfl) ?_|refine st_reg rfl (by first|(simp only[go_sem];rfl)|rfl) (by first|(simp only[go_sem];rfl)|rfl) ?_|refine st_op ?_|refine st_det rfl (by simp (disch:=omega) only[go_sem,wr_i64];rfl) ?_|(refine st_condS rfl ?_ ?_ <;> intro hg <;> (try simp only[dcT,dcF,bnT,bnF] at hg))|refine st_nil ?_|refine st_skip ?_)
  all_goals try (exfalso;omega)
  simp (disch:=omega) only[AEnd,Tryz.results68,aresK,fin,go_sem,implies_true,true_and,and_true,List.reverse_cons,List.reverse_nil]
  rw [List.append_nil]
  exact ⟨v,hat,hS.to (fun _ _ _ _ _=>rfl) (by simp only[go_sem];omega),(Fq.refl h).tick (by omega)⟩
end Go.Proofs.YtaijkalhkgjakaaGreatDoor
