/- Contracts of functions that the claim reaches: what each call gives, told in our own logic. Conditions: those of each theorem. -/
import Derived.Test.YtefogfgddofdmaaGreatDoorG12
import Derived.Test.YtefogfgddofdmaaGreatDoorBaseD
open Nat (reduceAdd reduceMul reduceEqDiff reduceLeDiff)
open List (length_map)
set_option linter.all false
set_option linter.unusedSimpArgs false
set_option linter.unusedVariables false
namespace Go.Proofs.YtefogfgddofdmaaGreatDoor
open Go.Av
attribute [local irreducible] thenA blockA awp awpOps awpD awp1
set_option maxHeartbeats 8000000
set_option maxRecDepth 20000
structure UsGood (us:List Int) (j:Nat):Prop where
  len:us.length≤j
  bd:∀ i,i < us.length→0≤elt us i∧elt us i < j
  up:∀ i,i+1 < us.length→elt us i < elt us (i+1)
structure FdGood (x:Fd) (C:Int):Prop where
  day:0≤x.day∧x.day < 10
  till:x.day≤x.till∧x.till≤20
  amt:0≤x.amt∧x.amt≤2 * C
  us:UsGood x.uses 3
structure BlGood (x:Bl) (C:Int):Prop where
  day:3≤x.day∧x.day≤12
  use:0≤x.use∧x.use < 3
  amt:0≤x.amt∧x.amt≤C
structure LgGood (l:Lg) (F B C:Int):Prop where
  fn:(l.fs.length:Int)≤F
  bn:(l.bs.length:Int)≤B
  f:∀ x ∈ l.fs,FdGood x C
  b:∀ x ∈ l.bs,BlGood x C
theorem elt_app {l:List Int} {r:Int} {i:Nat} (h:i < l.length):elt (l ++ [r]) i=elt l i:=by
  unfold elt;simp only[List.getD_eq_getElem?_getD];rw [List.getElem?_append_left h]
theorem elt_last {l:List Int} {r:Int}:elt (l ++ [r]) l.length=r:=by
  unfold elt;simp only[List.getD_eq_getElem?_getD];simp
theorem UsGood.mono {us:List Int} {j k:Nat} (h:UsGood us j) (hk:j≤k):UsGood us k:=⟨by have:=h.len;omega,fun i hi=>by have:=h.bd i hi;omega,h.up⟩
theorem UsGood.add {us:List Int} {j:Nat} (h:UsGood us j):UsGood (us ++ [((j:Nat):Int)]) (j+1):=by
  have hl:=h.len
  refine ⟨by simp;omega,fun i hi=>?_,fun i hi=>?_⟩
  · rw [List.length_append] at hi
    by_cases c:i < us.length
    · rw [elt_app c];have:=h.bd i c;omega
    · obtain rfl:i=us.length:=by simp at hi;omega
      rw [elt_last];omega
  · rw [List.length_append] at hi
    have hi':i < us.length:=by simp at hi;omega
    rw [elt_app hi']
    by_cases c:i+1 < us.length
    · rw [elt_app c];exact h.up i c
    · have:i+1=us.length:=by omega
      rw [this,elt_last];exact (h.bd i hi').2
structure Gd (h:AH) (b:Nat × Nat) (x:Int) (g:AH):Prop where
  u:isU64 x
  d:g.at_ b=dr x
  old:∀ b':Nat × Nat,b'.1 < h.clk→b' ≠ b→g.at_ b'=h.at_ b'
  lp:g.lp=h.lp
  cl:h.clk≤g.clk
def Sl (h g:AH) (v:AV) (z:Nat) (l:List (List AV)):Prop:=(v=.nils∧l=[]) ∨ ∃ b1:Nat × Nat,v=.slc b1 z 0 l.length∧g.at_ b1=some ⟨z,l⟩∧h.clk≤b1.1∧b1.1 < g.clk
theorem Sl.to {h g g':AH} {v:AV} {z:Nat} {l:List (List AV)} (hS:Sl h g v z l) (hk:∀ b1 m,v=.slc b1 z 0 m→h.clk≤b1.1→b1.1 < g.clk→g'.at_ b1=g.at_ b1) (hc:g.clk≤g'.clk):Sl h g' v z l:=by
  rcases hS with h'|⟨b1,h1,h2,h3,h4⟩
  · exact .inl h'
  · exact .inr ⟨b1,h1,by rw [hk b1 _ h1 h3 h4];exact h2,h3,by omega⟩
theorem Gd.to {h g g':AH} {b:Nat × Nat} {x x':Int} (hG:Gd h b x g) (u:isU64 x') (d:g'.at_ b=dr x') (ho:∀ b':Nat × Nat,b'.1 < h.clk→b' ≠ b→g'.at_ b'=g.at_ b') (hl:g'.lp=g.lp) (hc:g.clk≤g'.clk):Gd h b x' g' :=
  ⟨u,d,fun b' h1 h2=>by rw [ho b' h1 h2];exact hG.old b' h1 h2,by rw [hl];exact hG.lp,by have:=hG.cl;omega⟩
theorem frz_whole {b:Nat × Nat} {z:Nat} {l:List (List AV)}:frz b ⟨z,l⟩ (.slc b z 0 l.length)=.lst z l:=by
  simp only[frz]
  rw [if_pos ⟨trivial,by simp⟩,List.drop_zero,List.take_of_length_le (Nat.le_refl _)]
structure LfS where
  i:Int
  x:Int
  v:AV
  fs:List Fd
  g:AH
structure LuS where
  j:Nat
  x:Int
  w:AV
  us:List Int
  g:AH
structure LbS where
  i:Int
  x:Int
  v:AV
  bs:List Bl
  g:AH
theorem c7 (b:Nat × Nat) (F B C:Int) (hF:0≤F∧F≤8) (hB:0≤B∧B≤8) (hC:0≤C∧C≤100000):Drum Tryz.prog 7 [.ptr b 0 0,.int .i64 F,.int .i64 B,.int .i64 C] b (fun v=>∃ l:Lg,v=l.av∧LgGood l F B C):=by
  refine Drum.of Tryz.call7 fun h x hx hu hold=>?_
  refine ACalls.of tab mixed Tryz.call7 Tryz.func7 rfl (fi:=⟨82,[8,9,12],[31,50,56,78,1000012,1000017],none,[(16,[0,1,0,4,0,28,0,0,128,508,1020,2044,4095,8191,16383],[(0,false),(1,true),(2,false),(4,false),(6,false),(7,false),(8,false),(3,false),(5,false),(9,false),(10,false),(11,false),(12,false),(13,false),(14,false)])]⟩) rfl rfl (Nat.le_of_ble_eq_true rfl) (by decide) ?_
  unfold startA
  repeat' (first|refine st_seq_reg rfl (by first|(simp only[go_sem,hx];rfl)|rfl) (by first|(simp only[go_sem,hx];rfl)|rfl) ?_|refine st_op ?_|refine st_det rfl (by simp (disch:=omega) only[go_sem,wr_i64,if_yes,if_no,↓reduceIte,reduceAdd,reduceMul,reduceEqDiff,Nat.reduceBEq,reduceLeDiff,hx];rfl) ?_|refine st_loc rfl (by simp (disch:=omega) only[go_sem,wr_i64,if_yes,if_no,↓reduceIte,reduceAdd,reduceMul,reduceEqDiff,Nat.reduceBEq,reduceLeDiff,hx];rfl) ?_|(refine st_drum (by first|(simp (disch:=omega) only[go_sem,hx];rfl)|rfl) rfl (c25' b _ (by omega)) (by first|(simp (disch:=omega) only[go_sem,hx];rfl)|rfl|exact put_same _ _ _) (by assumption) (by first|(simp only[go_sem,hx];rfl)|rfl) (by intro x' n;first|(simp (disch:=omega) only[go_sem];rfl)|rfl) ?_;rintro v x' n hu' ⟨r,rfl,hr⟩ hn)|refine st_nil ?_|refine st_seq ?_|refine st_block ?_)
  refine st_loopH (α:=LfS) tab mixed [9] [_] (by repeat (first|exact trivial|refine ⟨rfl,?_⟩)) [8] [_] (by repeat (first|exact trivial|refine ⟨rfl,?_⟩)) (fun a=>[(10,.int .i64 a.i)]) [(0,_),(2,_),(3,_),(8,_),(9,_)] (fun a=>[[a.v,.nils]]) [_] (fun a=>a.g) (fun a=>Gd h b a.x a.g∧0≤a.i∧(a.fs.length:Int)+a.i≤F∧Sl h a.g a.v 4 (a.fs.map Fd.row)∧∀ x ∈ a.fs,FdGood x C) (fun a=>a.i.toNat) (by decide) ⟨r,x',.nils,[],_⟩ (by refine ⟨⟨hu',by simp only[go_sem,↓reduceIte],fun b' _ h2=>by simp only[go_sem,h2,↓reduceIte],rfl,by simp only[go_sem];omega⟩,hr.1,by show (0:Int)+r≤F;omega,.inl ⟨rfl,rfl⟩,fun x hx=>by cases hx⟩) (by (try simp only[go_sem]);repeat' (first|exact trivial|refine And.intro ?_ ?_|rfl|(simp (disch:=omega) only[go_sem,if_yes,if_no,↓reduceIte,reduceAdd,reduceMul,reduceEqDiff,Nat.reduceBEq,reduceLeDiff];rfl)|(simp (disch:=omega) only[go_sem,if_yes,if_no,↓reduceIte,reduceAdd,reduceMul,reduceEqDiff,Nat.reduceBEq,reduceLeDiff]))) (by (try simp only[go_sem]);repeat' (first|exact trivial|refine And.intro ?_ ?_|rfl|(simp (disch:=omega) only[go_sem,if_yes,if_no,↓reduceIte,reduceAdd,reduceMul,reduceEqDiff,Nat.reduceBEq,reduceLeDiff];rfl)|(simp (disch:=omega) only[go_sem,if_yes,if_no,↓reduceIte,reduceAdd,reduceMul,reduceEqDiff,Nat.reduceBEq,reduceLeDiff]))) (HOld.refl _) ?_
  rintro ⟨i,x,v,fs,g⟩ c ⟨hG,i0,le,hS,hfd⟩ hc
  dsimp only at hG i0 le hS hfd hc
  have hu0:=hG.u
  have hd:=hG.d
  have hgc:=hG.cl
  simp only[go_sem]
  by_cases hi:0 < i
  case neg =>
    have hvb:∀ (b1:Nat × Nat) m,v=.slc b1 4 0 m→b1.1 < c:=fun b1 m e=>by
      rcases hS with ⟨e',_⟩|⟨b1',e',_,_,q⟩
      · rw [e'] at e;cases e
      · rw [e'] at e;injection e with e1;rw [← e1];omega
    have nbb:∀ {b1:Nat × Nat},h.clk≤b1.1→¬ b1=b:=fun hb e=>by rw [e] at hb;omega
    repeat' (first|refine st_seq_reg rfl (by first|(simp only[go_sem,hd];rfl)|rfl) (by first|(simp only[go_sem,hd];rfl)|rfl) ?_|refine st_op ?_|refine st_det rfl (by simp (disch:=omega) only[go_sem,wr_i64,if_yes,if_no,↓reduceIte,reduceAdd,reduceMul,reduceEqDiff,Nat.reduceBEq,reduceLeDiff,hd];rfl) ?_|(refine st_drum (by first|(simp (disch:=omega) only[go_sem,hd];rfl)|rfl) rfl (c25' b (B+1) (by omega)) (by first|(simp (disch:=omega) only[go_sem,hd];rfl)|rfl|exact put_same _ _ _) (by assumption) (by first|(simp only[go_sem,hd];rfl)|rfl) (by intro x' n;first|(simp (disch:=omega) only[go_sem];rfl)|rfl) ?_;rintro v x' n hu' ⟨r,rfl,hr⟩ hn)|(refine st_condS rfl ?_ ?_ <;> intro hg <;> (try simp only[decide_eq_true_eq,decide_eq_false_iff_not,Bool.not_eq_true',Bool.not_eq_false'] at hg))|refine st_nil ?_|refine st_tN ?_|refine st_seq ?_|refine st_block ?_|refine st_skip ?_|refine st_exit ?_|refine st_tE ?_|refine st_bH ?_)
    · exact absurd (by assumption) hi
    refine st_loopH (α:=LbS) tab mixed [9] [_] (by repeat (first|exact trivial|refine ⟨rfl,?_⟩)) [8] [_] (by repeat (first|exact trivial|refine ⟨rfl,?_⟩)) (fun a=>[(14,.int .i64 a.i)]) [(0,_),(3,_),(8,_),(9,_)] (fun a=>[[v,a.v]]) [_] (fun a=>a.g) (fun a=>Gd h b a.x a.g∧c≤a.g.clk∧0≤a.i∧(a.bs.length:Int)+a.i≤B∧Sl h a.g v 4 (fs.map Fd.row)∧Sl h a.g a.v 3 (a.bs.map Bl.row)∧(∀ b2 m,a.v=.slc b2 3 0 m→c≤b2.1)∧∀ x ∈ a.bs,BlGood x C) (fun a=>a.i.toNat) (by decide) ⟨r,x',.nils,[],_⟩ (by refine ⟨hG.to hu' (by simp only[go_sem,↓reduceIte]) (fun b' _ h2=>by simp only[go_sem,h2,↓reduceIte]) rfl (by simp only[go_sem];omega),by simp only[go_sem];omega,hr.1,by show (0:Int)+r≤B;omega,hS.to (fun b1 m _ h1 _=>by simp only[go_sem,nbb h1,↓reduceIte]) (by simp only[go_sem];omega),.inl ⟨rfl,rfl⟩,fun b2 m e=>(by cases e),fun x hx=>by cases hx⟩) (by (try simp only[go_sem]);repeat' (first|exact trivial|refine And.intro ?_ ?_|rfl|(simp (disch:=omega) only[go_sem,if_yes,if_no,↓reduceIte,reduceAdd,reduceMul,reduceEqDiff,Nat.reduceBEq,reduceLeDiff];rfl)|(simp (disch:=omega) only[go_sem,if_yes,if_no,↓reduceIte,reduceAdd,reduceMul,reduceEqDiff,Nat.reduceBEq,reduceLeDiff]))) (by (try simp only[go_sem]);repeat' (first|exact trivial|refine And.intro ?_ ?_|rfl|(simp (disch:=omega) only[go_sem,if_yes,if_no,↓reduceIte,reduceAdd,reduceMul,reduceEqDiff,Nat.reduceBEq,reduceLeDiff];rfl)|(simp (disch:=omega) only[go_sem,if_yes,if_no,↓reduceIte,reduceAdd,reduceMul,reduceEqDiff,Nat.reduceBEq,reduceLeDiff]))) (HOld.refl _) ?_
    rintro ⟨i2,x2,w,bs,g2⟩ c2 ⟨hG2,hcc,i20,le2,hS2,hW,hwc,hbg⟩ hc2
    dsimp only at hG2 hcc i20 le2 hS2 hW hwc hbg hc2
    have hu2:=hG2.u
    have hd2:=hG2.d
    have hgc2:=hG2.cl
    simp only[go_sem]
    by_cases hi2:0 < i2
    case neg =>
      repeat' (first|refine st_seq_reg rfl (by first|(simp only[go_sem];rfl)|rfl) (by first|(simp only[go_sem];rfl)|rfl) ?_|refine st_draw rfl (by first|(simp only[go_sem];rfl)|rfl) (by first|(simp only[go_sem];rfl)|rfl) ?_|refine st_op ?_|refine st_det rfl (by simp (disch:=omega) only[go_sem,wr_i64,if_yes,if_no,↓reduceIte,reduceAdd,reduceMul,reduceEqDiff,Nat.reduceBEq,reduceLeDiff];rfl) ?_|refine st_dop rfl ?_|(refine st_condS rfl ?_ ?_ <;> intro hg <;> (try simp only[decide_eq_true_eq,decide_eq_false_iff_not,Bool.not_eq_true',Bool.not_eq_false'] at hg))|refine st_nil ?_|refine st_tN ?_|refine st_seq ?_|refine st_block ?_|refine st_skip ?_|refine st_exit ?_|refine st_tE ?_|refine st_bH ?_)
      · exact absurd (by assumption) hi2
      refine st_free ?_
      refine ASem.cutX (h.clk+1,9) (fun b2=>∃ m,w=.slc b2 3 0 m) (cs:=[v,w]) (cs':=[v,.lst 3 (bs.map Bl.row)]) (by simp only[go_sem,↓reduceIte] <;> rfl) ?_ fun H1 h1a h1b h1c=>?_
      · rcases hW with ⟨rfl,e2⟩|⟨b2,rfl,q2,q3,q4⟩
        · refine .inl ⟨?_,fun hall=>?_⟩
          · rw [e2];simp only[VLes];exact ⟨_,_,rfl,.refl _,_,_,rfl,VLe.nils 3,rfl⟩
          · simp only[List.all_cons,List.all_nil,Bool.and_true,Bool.and_eq_true] at hall ⊢
            exact ⟨hall.1,rfl⟩
        · refine .inr ⟨b2,⟨3,bs.map Bl.row⟩,by simp only[go_sem];exact q2,?_,⟨_,rfl⟩⟩
          have hvf:frz b2 ⟨3,bs.map Bl.row⟩ v=v:=by
            rcases hS with ⟨e',_⟩|⟨b1',e',_,_,q⟩
            · rw [e'];rfl
            · rw [e']
              simp only[frz]
              rw [if_neg (fun hh=>by have:=hwc _ _ rfl;rw [← hh.1] at this;omega)]
          simp only[frzs];rw [frz_whole,hvf]
      refine ASem.cutX (h.clk+1,9) (fun b2=>∃ m,v=.slc b2 4 0 m) (cs:=[v,.lst 3 (bs.map Bl.row)]) (cs':=[.lst 4 (fs.map Fd.row),.lst 3 (bs.map Bl.row)]) (by simp only[go_sem,↓reduceIte] <;> rfl) ?_ fun H2 h2a h2b h2c=>?_
      · rcases hS2 with ⟨e1,e2⟩|⟨b1,e1,q2,q3,q4⟩
        · refine .inl ⟨?_,fun hall=>?_⟩
          · rw [e2,e1];simp only[VLes];exact ⟨_,_,rfl,VLe.nils 4,_,_,rfl,.refl _,rfl⟩
          · rfl
        · refine .inr ⟨b1,⟨4,fs.map Fd.row⟩,?_,?_,⟨_,e1⟩⟩
          · rw [h1a b1 (fun ⟨m,e⟩=>by have a1:=hwc _ _ e;have a2:=hvb _ _ e1;omega)];simp only[go_sem];exact q2
          · rw [e1];simp only[frzs];rw [frz_whole]
            have hbf:frz b1 ⟨4,fs.map Fd.row⟩ (.lst 3 (bs.map Bl.row))=.lst 3 (bs.map Bl.row):=by
              simp only[frz,frzss_map,List.map_map]
              congr 1
            rw [hbf]
      have hbc:b.1 < c:=by omega
      have key:∀ b':Nat × Nat,b'.1 < h.clk→H2.at_ b'=g2.at_ b':=fun b' hb'=>by
        rw [h2a b' (fun ⟨m,e⟩=>by
          rcases hS with ⟨e',_⟩|⟨b1',e',_,q3,q⟩
          · rw [e'] at e;cases e
          · rw [e'] at e;injection e with e1;rw [← e1] at hb';omega),h1a b' (fun ⟨m,e⟩=>by have:=hwc _ _ e;omega)]
        rfl
      refine st_run tab mixed (f2:=⟨82,[8,9,12],[31,50,56,78],none,[(16,[0,1,0,4,0,28,0,0,128,508,1020,2044,4095,8191,16383],[(0,false),(1,true),(2,false),(4,false),(6,false),(7,false),(8,false),(3,false),(5,false),(9,false),(10,false),(11,false),(12,false),(13,false),(14,false)])]⟩) rfl rfl (by decide) ?_
      repeat' (first|refine st_reg rfl (by first|(simp only[go_sem];rfl)|rfl) (by first|(simp only[go_sem];rfl)|rfl) ?_|refine st_op ?_|refine st_det rfl (by simp (disch:=omega) only[go_sem,wr_i64,if_yes,if_no,↓reduceIte,reduceAdd,reduceMul,reduceEqDiff,Nat.reduceBEq,reduceLeDiff];rfl) ?_|refine st_store (by simp (disch:=omega) only[go_sem,wr_i64,if_yes,if_no,↓reduceIte,reduceAdd,reduceMul,reduceEqDiff,Nat.reduceBEq,reduceLeDiff];rfl) ?_|refine st_nil ?_|refine st_tN ?_|refine st_ret ?_)
      simp (disch:=omega) only[AEnd,Tryz.results7,aresK,fin,go_sem,↓reduceIte,reduceEqDiff,reduceAdd,reduceLeDiff,if_yes,if_no,implies_true,true_and,and_true,List.reverse_cons,List.reverse_nil]
      refine ⟨fun b' h1 h2=>by rw [key b' h1];exact hG2.old b' h1 h2,⟨x2,by rw [key b hold];exact hd2,hu2⟩,by rw [h2c,h1c];exact hG2.lp,⟨fs,bs⟩,rfl,?_⟩
      exact ⟨by show (fs.length:Int)≤F;omega,by show (bs.length:Int)≤B;omega,hfd,hbg⟩
    rcases hW with ⟨rfl,e2⟩|⟨b2,rfl,q2,q3,q4⟩
    · have e2':bs=[]:=by simpa using e2
      subst e2'
      repeat' (first|refine st_seq_reg rfl (by first|(simp only[go_sem,hd2,big];rfl)|rfl) (by first|(simp only[go_sem,hd2,big];rfl)|rfl) ?_|refine st_reg rfl (by first|(simp only[go_sem,hd2,big];rfl)|rfl) (by first|(simp only[go_sem,hd2,big];rfl)|rfl) ?_|refine st_draw rfl (by first|(simp only[go_sem,hd2,big];rfl)|rfl) (by first|(simp only[go_sem,hd2,big];rfl)|rfl) ?_|refine st_op ?_|refine st_det rfl (by simp (disch:=omega) only[go_sem,wr_i64,if_yes,if_no,↓reduceIte,reduceAdd,reduceMul,reduceEqDiff,Nat.reduceBEq,reduceLeDiff,hd2,big];rfl) ?_|refine st_dop rfl ?_|refine st_store (by simp (disch:=omega) only[go_sem,wr_i64,if_yes,if_no,↓reduceIte,reduceAdd,reduceMul,reduceEqDiff,Nat.reduceBEq,reduceLeDiff,hd2,big];rfl) ?_|refine st_append (by simp (disch:=omega) only[go_sem,wr_i64,if_yes,if_no,↓reduceIte,reduceAdd,reduceMul,reduceEqDiff,Nat.reduceBEq,reduceLeDiff,hd2,big];rfl) ?_|(refine st_drum (by first|(simp (disch:=omega) only[go_sem,hd2,big];rfl)|rfl) rfl (c26' b 3 12 (by omega) (by omega)) (by first|(simp (disch:=omega) only[go_sem,hd2,big];rfl)|rfl|exact put_same _ _ _) (by assumption) (by first|(simp only[go_sem,hd2,big];rfl)|rfl) (by intro x' n;first|(simp (disch:=omega) only[go_sem];rfl)|rfl) ?_;rintro v x' n hu' ⟨r,rfl,hr⟩ hn)|(refine st_drum (by first|(simp (disch:=omega) only[go_sem,hd2,big];rfl)|rfl) rfl (c25' b 3 (by omega)) (by first|(simp (disch:=omega) only[go_sem,hd2,big];rfl)|rfl|exact put_same _ _ _) (by assumption) (by first|(simp only[go_sem,hd2,big];rfl)|rfl) (by intro x' n;first|(simp (disch:=omega) only[go_sem];rfl)|rfl) ?_;rintro v x' n hu' ⟨r,rfl,hr⟩ hn)|(refine st_drum (by first|(simp (disch:=omega) only[go_sem,hd2,big];rfl)|rfl) rfl (c25' b (C+1) (by omega)) (by first|(simp (disch:=omega) only[go_sem,hd2,big];rfl)|rfl|exact put_same _ _ _) (by assumption) (by first|(simp only[go_sem,hd2,big];rfl)|rfl) (by intro x' n;first|(simp (disch:=omega) only[go_sem];rfl)|rfl) ?_;rintro v x' n hu' ⟨r,rfl,hr⟩ hn)|(refine st_condS rfl ?_ ?_ <;> intro hg <;> (try simp only[decide_eq_true_eq,decide_eq_false_iff_not,Bool.not_eq_true',Bool.not_eq_false'] at hg))|refine st_nil ?_|refine st_dnil ?_|refine st_tN ?_|refine st_seq ?_|refine st_block ?_|refine st_skip ?_|refine st_exit ?_|refine st_tE ?_|refine st_bN ?_|refine st_bH ?_)
      rotate_left
      · exact absurd hi2 (by assumption)
      rename_i xA nA uA rA hA mA xB nB uB rB hB' mB
      have hbg1:BlGood ⟨rA,rB,r⟩ C:=⟨by show 3≤rA∧rA≤12;omega,by show 0≤rB∧rB < 3;omega,by show 0≤r∧r≤C;omega⟩
      have m79:¬ b=(c2+1,79):=fun e=>by have:b.1=c2+1:=congrArg Prod.fst e;omega
      have hol:∀ b':Nat × Nat,b'.1 < c2+1→¬ b'=(c2+1,79):=fun b' hb' e=>by rw [e] at hb';exact Nat.lt_irrefl _ hb'
      refine ⟨⟨i2 - 1,x',.slc (c2+1,79) 3 0 1,[⟨rA,rB,r⟩],_⟩,(by refine ⟨hG2.to hu' (by simp only[go_sem,m79,↓reduceIte]) (fun b' h1 h2=>by simp only[go_sem,hol b' (by omega),h2,↓reduceIte]) rfl (by simp only[go_sem];omega),by simp only[go_sem];omega,by show 0≤i2 - 1;omega,by show (1:Int)+(i2 - 1)≤B;have:(0:Int)+i2≤B:=le2;omega,hS2.to (fun b1 m e h1 h2=>by simp only[go_sem,hol b1 (by omega),nbb h1,↓reduceIte]) (by simp only[go_sem];omega),.inr ⟨(c2+1,79),rfl,by simp only[go_sem,↓reduceIte] <;> rfl,by show h.clk≤c2+1;omega,by simp only[go_sem];omega⟩,fun b3 m e=>by injection e with e1;rw [← e1];show c≤c2+1;omega,fun y hy=>by rw [List.mem_singleton.1 hy];exact hbg1⟩),by show (i2 - 1).toNat < i2.toNat;omega,(by repeat' (first|exact trivial|refine And.intro ?_ ?_|rfl|(simp (disch:=omega) only[go_sem,if_yes,if_no,↓reduceIte,reduceAdd,reduceMul,reduceEqDiff,Nat.reduceBEq,reduceLeDiff];rfl)|(simp (disch:=omega) only[go_sem,if_yes,if_no,↓reduceIte,reduceAdd,reduceMul,reduceEqDiff,Nat.reduceBEq,reduceLeDiff]))),(by repeat' (first|exact trivial|refine And.intro ?_ ?_|rfl|(simp (disch:=omega) only[go_sem,if_yes,if_no,↓reduceIte,reduceAdd,reduceMul,reduceEqDiff,Nat.reduceBEq,reduceLeDiff];rfl)|(simp (disch:=omega) only[go_sem,if_yes,if_no,↓reduceIte,reduceAdd,reduceMul,reduceEqDiff,Nat.reduceBEq,reduceLeDiff]))),rfl,HOld.refl _⟩
    · have hwc2:=hwc _ _ rfl
      have n2:¬ b2=b:=nbb q3
      have n3:¬ b=b2:=fun e=>n2 e.symm
      repeat' (first|refine st_seq_reg rfl (by first|(simp only[go_sem,hd2,big,length_map,q2,n2,n3];rfl)|rfl) (by first|(simp only[go_sem,hd2,big,length_map,q2,n2,n3];rfl)|rfl) ?_|refine st_reg rfl (by first|(simp only[go_sem,hd2,big,length_map,q2,n2,n3];rfl)|rfl) (by first|(simp only[go_sem,hd2,big,length_map,q2,n2,n3];rfl)|rfl) ?_|refine st_draw rfl (by first|(simp only[go_sem,hd2,big,length_map,q2,n2,n3];rfl)|rfl) (by first|(simp only[go_sem,hd2,big,length_map,q2,n2,n3];rfl)|rfl) ?_|refine st_op ?_|refine st_det rfl (by simp (disch:=omega) only[go_sem,wr_i64,if_yes,if_no,↓reduceIte,reduceAdd,reduceMul,reduceEqDiff,Nat.reduceBEq,reduceLeDiff,hd2,big,length_map,q2,n2,n3];rfl) ?_|refine st_dop rfl ?_|refine st_store (by simp (disch:=omega) only[go_sem,wr_i64,if_yes,if_no,↓reduceIte,reduceAdd,reduceMul,reduceEqDiff,Nat.reduceBEq,reduceLeDiff,hd2,big,length_map,q2,n2,n3];rfl) ?_|refine st_append (by simp (disch:=omega) only[go_sem,wr_i64,if_yes,if_no,↓reduceIte,reduceAdd,reduceMul,reduceEqDiff,Nat.reduceBEq,reduceLeDiff,hd2,big,length_map,q2,n2,n3];rfl) ?_|(refine st_drum (by first|(simp (disch:=omega) only[go_sem,hd2,big,length_map,q2,n2,n3];rfl)|rfl) rfl (c26' b 3 12 (by omega) (by omega)) (by first|(simp (disch:=omega) only[go_sem,hd2,big,length_map,q2,n2,n3];rfl)|rfl|exact put_same _ _ _) (by assumption) (by first|(simp only[go_sem,hd2,big,length_map,q2,n2,n3];rfl)|rfl) (by intro x' n;first|(simp (disch:=omega) only[go_sem];rfl)|rfl) ?_;rintro v x' n hu' ⟨r,rfl,hr⟩ hn)|(refine st_drum (by first|(simp (disch:=omega) only[go_sem,hd2,big,length_map,q2,n2,n3];rfl)|rfl) rfl (c25' b 3 (by omega)) (by first|(simp (disch:=omega) only[go_sem,hd2,big,length_map,q2,n2,n3];rfl)|rfl|exact put_same _ _ _) (by assumption) (by first|(simp only[go_sem,hd2,big,length_map,q2,n2,n3];rfl)|rfl) (by intro x' n;first|(simp (disch:=omega) only[go_sem];rfl)|rfl) ?_;rintro v x' n hu' ⟨r,rfl,hr⟩ hn)|(refine st_drum (by first|(simp (disch:=omega) only[go_sem,hd2,big,length_map,q2,n2,n3];rfl)|rfl) rfl (c25' b (C+1) (by omega)) (by first|(simp (disch:=omega) only[go_sem,hd2,big,length_map,q2,n2,n3];rfl)|rfl|exact put_same _ _ _) (by assumption) (by first|(simp only[go_sem,hd2,big,length_map,q2,n2,n3];rfl)|rfl) (by intro x' n;first|(simp (disch:=omega) only[go_sem];rfl)|rfl) ?_;rintro v x' n hu' ⟨r,rfl,hr⟩ hn)|(refine st_condS rfl ?_ ?_ <;> intro hg <;> (try simp only[decide_eq_true_eq,decide_eq_false_iff_not,Bool.not_eq_true',Bool.not_eq_false'] at hg))|refine st_nil ?_|refine st_dnil ?_|refine st_tN ?_|refine st_seq ?_|refine st_block ?_|refine st_skip ?_|refine st_exit ?_|refine st_tE ?_|refine st_bN ?_|refine st_bH ?_)
      rotate_left
      · exact absurd hi2 (by assumption)
      rename_i xA nA uA rA hA mA xB nB uB rB hB' mB
      have hbg1:BlGood ⟨rA,rB,r⟩ C:=⟨by show 3≤rA∧rA≤12;omega,by show 0≤rB∧rB < 3;omega,by show 0≤r∧r≤C;omega⟩
      have m79:¬ b=(c2+1,79):=fun e=>by have:b.1=c2+1:=congrArg Prod.fst e;omega
      have hol:∀ b':Nat × Nat,b'.1 < c2+1→¬ b'=(c2+1,79):=fun b' hb' e=>by rw [e] at hb';exact Nat.lt_irrefl _ hb'
      have ho2:∀ b':Nat × Nat,b'.1 < h.clk→¬ b'=b2:=fun b' hb' e=>by rw [e] at hb';omega
      refine ⟨⟨i2 - 1,x',.slc (c2+1,79) 3 0 (bs.length+1),bs ++ [⟨rA,rB,r⟩],_⟩,(by refine ⟨hG2.to hu' (by simp only[go_sem,m79,n3,↓reduceIte]) (fun b' h1 h2=>by simp only[go_sem,hol b' (by omega),ho2 b' h1,h2,↓reduceIte]) rfl (by simp only[go_sem];omega),by simp only[go_sem];omega,by show 0≤i2 - 1;omega,by rw [List.length_append];show ((bs.length+1:Nat):Int)+(i2 - 1)≤B;omega,hS2.to (fun b1 m e h1 h2=>by have h3:=hvb b1 m e;have h4:¬ b1=b2:=(fun e=>by rw [e] at h3;omega);simp only[go_sem,hol b1 (by omega),nbb h1,h4,↓reduceIte]) (by simp only[go_sem];omega),.inr ⟨(c2+1,79),by rw [length_map,List.length_append];rfl,by simp only[go_sem,↓reduceIte];rw [List.map_append,List.take_of_length_le (by simp)];rfl,by show h.clk≤c2+1;omega,by simp only[go_sem];omega⟩,fun b3 m e=>by injection e with e1;rw [← e1];show c≤c2+1;omega,fun y hy=>(List.mem_append.1 hy).elim (hbg y) (fun hy=>by rw [List.mem_singleton.1 hy];exact hbg1)⟩),by show (i2 - 1).toNat < i2.toNat;omega,(by repeat' (first|exact trivial|refine And.intro ?_ ?_|rfl|(simp (disch:=omega) only[go_sem,if_yes,if_no,↓reduceIte,reduceAdd,reduceMul,reduceEqDiff,Nat.reduceBEq,reduceLeDiff];rfl)|(simp (disch:=omega) only[go_sem,if_yes,if_no,↓reduceIte,reduceAdd,reduceMul,reduceEqDiff,Nat.reduceBEq,reduceLeDiff]))),(by repeat' (first|exact trivial|refine And.intro ?_ ?_|rfl|(simp (disch:=omega) only[go_sem,if_yes,if_no,↓reduceIte,reduceAdd,reduceMul,reduceEqDiff,Nat.reduceBEq,reduceLeDiff];rfl)|(simp (disch:=omega) only[go_sem,if_yes,if_no,↓reduceIte,reduceAdd,reduceMul,reduceEqDiff,Nat.reduceBEq,reduceLeDiff]))),rfl,HOld.refl _⟩
  repeat' (first|refine st_seq_reg rfl (by first|(simp only[go_sem,hd];rfl)|rfl) (by first|(simp only[go_sem,hd];rfl)|rfl) ?_|refine st_op ?_|refine st_det rfl (by simp (disch:=omega) only[go_sem,wr_i64,if_yes,if_no,↓reduceIte,reduceAdd,reduceMul,reduceEqDiff,Nat.reduceBEq,reduceLeDiff,hd];rfl) ?_|refine st_loc rfl (by simp (disch:=omega) only[go_sem,wr_i64,if_yes,if_no,↓reduceIte,reduceAdd,reduceMul,reduceEqDiff,Nat.reduceBEq,reduceLeDiff,hd];rfl) ?_|refine st_store (by simp (disch:=omega) only[go_sem,wr_i64,if_yes,if_no,↓reduceIte,reduceAdd,reduceMul,reduceEqDiff,Nat.reduceBEq,reduceLeDiff,hd];rfl) ?_|(refine st_drum (by first|(simp (disch:=omega) only[go_sem,hd];rfl)|rfl) rfl (c25' b 10 (by omega)) (by first|(simp (disch:=omega) only[go_sem,hd];rfl)|rfl|exact put_same _ _ _) (by assumption) (by first|(simp only[go_sem,hd];rfl)|rfl) (by intro x' n;first|(simp (disch:=omega) only[go_sem];rfl)|rfl) ?_;rintro v x' n hu' ⟨r,rfl,hr⟩ hn)|(refine st_drum (by first|(simp (disch:=omega) only[go_sem,hd];rfl)|rfl) rfl (c27b b _ _) (by first|(simp (disch:=omega) only[go_sem,hd];rfl)|rfl|exact put_same _ _ _) (by assumption) (by first|(simp only[go_sem,hd];rfl)|rfl) (by intro x' n;first|(simp (disch:=omega) only[go_sem];rfl)|rfl) ?_;rintro v x' n hu' ⟨r,rfl,hr⟩ hn)|(refine st_drum (by first|(simp (disch:=omega) only[go_sem,hd];rfl)|rfl) rfl (c26' b _ _ (by omega) (by omega)) (by first|(simp (disch:=omega) only[go_sem,hd];rfl)|rfl|exact put_same _ _ _) (by assumption) (by first|(simp only[go_sem,hd];rfl)|rfl) (by intro x' n;first|(simp (disch:=omega) only[go_sem];rfl)|rfl) ?_;rintro v x' n hu' ⟨r,rfl,hr⟩ hn)|(refine st_drum (by first|(simp (disch:=omega) only[go_sem,hd];rfl)|rfl) rfl (c25' b (2 * C+1) (by omega)) (by first|(simp (disch:=omega) only[go_sem,hd];rfl)|rfl|exact put_same _ _ _) (by assumption) (by first|(simp only[go_sem,hd];rfl)|rfl) (by intro x' n;first|(simp (disch:=omega) only[go_sem];rfl)|rfl) ?_;rintro v x' n hu' ⟨r,rfl,hr⟩ hn)|(refine st_condS rfl ?_ ?_ <;> intro hg <;> (try simp only[decide_eq_true_eq,decide_eq_false_iff_not,Bool.not_eq_true',Bool.not_eq_false'] at hg))|refine st_nil ?_|refine st_tN ?_|refine st_seq ?_|refine st_block ?_|refine st_skip ?_|refine st_exit ?_|refine st_tE ?_|refine st_bH ?_)
  rotate_left
  · exact absurd hi (by assumption)
  rename_i xA nA uA rA hA mA xB nB uB rB hB' mB xC nC uC rC hC' mC
  have nbb:∀ {b1:Nat × Nat},h.clk≤b1.1→¬ b1=b:=fun hb e=>by rw [e] at hb;omega
  refine st_loopH (α:=LuS) tab mixed [12] [_] (by repeat (first|exact trivial|refine ⟨rfl,?_⟩)) [8,9] [_,_] (by repeat (first|exact trivial|refine ⟨rfl,?_⟩)) (fun a=>[(13,.int .i64 (a.j:Nat))]) [(0,_),(2,_),(3,_),(8,_),(9,_),(10,_),(12,_)] (fun a=>[[.int .i64 rA,.int .i64 rC,.int .i64 r,a.w]]) [_,_] (fun a=>a.g) (fun a=>Gd h b a.x a.g∧c≤a.g.clk∧a.j≤3∧UsGood a.us a.j∧Sl h a.g v 4 (fs.map Fd.row)∧Sl h a.g a.w 1 (a.us.map iv)∧(∀ b2 m,a.w=.slc b2 1 0 m→c≤b2.1)) (fun a=>3 - a.j) (by decide) ⟨0,x',.nils,[],_⟩ (by refine ⟨hG.to hu' (by simp only[go_sem,↓reduceIte]) (fun b' _ h2=>by simp only[go_sem,h2,↓reduceIte]) rfl (by simp only[go_sem];omega),by simp only[go_sem];omega,Nat.zero_le _,⟨Nat.zero_le _,fun i hi=>absurd hi (Nat.not_lt_zero _),fun i hi=>absurd hi (Nat.not_lt_zero _)⟩,hS.to (fun b1 m _ h1 _=>by simp only[go_sem,nbb h1,↓reduceIte]) (by simp only[go_sem];omega),.inl ⟨rfl,rfl⟩,fun b2 m e=>by cases e⟩) (by (try simp only[go_sem]);repeat' (first|exact trivial|refine And.intro ?_ ?_|rfl|(simp (disch:=omega) only[go_sem,if_yes,if_no,↓reduceIte,reduceAdd,reduceMul,reduceEqDiff,Nat.reduceBEq,reduceLeDiff];rfl)|(simp (disch:=omega) only[go_sem,if_yes,if_no,↓reduceIte,reduceAdd,reduceMul,reduceEqDiff,Nat.reduceBEq,reduceLeDiff]))) (by (try simp only[go_sem]);repeat' (first|exact trivial|refine And.intro ?_ ?_|rfl|(simp (disch:=omega) only[go_sem,if_yes,if_no,↓reduceIte,reduceAdd,reduceMul,reduceEqDiff,Nat.reduceBEq,reduceLeDiff];rfl)|(simp (disch:=omega) only[go_sem,if_yes,if_no,↓reduceIte,reduceAdd,reduceMul,reduceEqDiff,Nat.reduceBEq,reduceLeDiff]))) (HOld.refl _) ?_
  rintro ⟨j,x2,w,us,g2⟩ c2 ⟨hG2,hcc,j1,hus,hS2,hW,hwc⟩ hc2
  dsimp only at hG2 hcc j1 hus hS2 hW hwc hc2
  have hu2:=hG2.u
  have hd2:=hG2.d
  have hgc2:=hG2.cl
  simp only[go_sem]
  by_cases hj:j < 3
  case neg =>
    repeat' (first|refine st_seq_reg rfl (by first|(simp only[go_sem];rfl)|rfl) (by first|(simp only[go_sem];rfl)|rfl) ?_|refine st_op ?_|refine st_det rfl (by simp (disch:=omega) only[go_sem,wr_i64,if_yes,if_no,↓reduceIte,reduceAdd,reduceMul,reduceEqDiff,Nat.reduceBEq,reduceLeDiff];rfl) ?_|(refine st_condS rfl ?_ ?_ <;> intro hg <;> (try simp only[decide_eq_true_eq,decide_eq_false_iff_not,Bool.not_eq_true',Bool.not_eq_false'] at hg))|refine st_nil ?_|refine st_tN ?_|refine st_seq ?_|refine st_block ?_|refine st_skip ?_|refine st_exit ?_|refine st_tE ?_|refine st_bH ?_)
    · exfalso;omega
    refine st_free ?_
    refine ASem.cutX (nA,12) (fun b2=>∃ m,w=.slc b2 1 0 m) (cs:=[.int .i64 rA,.int .i64 rC,.int .i64 r,w]) (cs':=[.int .i64 rA,.int .i64 rC,.int .i64 r,.lst 1 (us.map iv)]) (by simp only[go_sem,↓reduceIte] <;> rfl) ?_ fun H' h1' h2' h3'=>?_
    · rcases hW with ⟨rfl,e2⟩|⟨b2,rfl,q2,q3,q4⟩
      · refine .inl ⟨?_,fun _=>rfl⟩
        rw [e2]
        simp only[VLes]
        exact ⟨_,_,rfl,.refl _,_,_,rfl,.refl _,_,_,rfl,.refl _,_,_,rfl,VLe.nils 1,rfl⟩
      · refine .inr ⟨b2,⟨1,us.map iv⟩,by simp only[go_sem];exact q2,?_,⟨_,rfl⟩⟩
        simp only[frzs];rw [frz_whole];simp only[frz]
    have hnW:∀ b':Nat × Nat,b'.1 < c→H'.at_ b'=g2.at_ b':=fun b' hb'=>h1' b' (fun ⟨m,e⟩=>by have:=hwc _ _ e;omega)
    have hbc:b.1 < c:=by omega
    have hdH:H'.at_ b=dr x2:=by rw [hnW b hbc];exact hd2
    have hck:H'.clk=c2+1:=h2'
    have hlp:H'.lp=g2.lp:=h3'
    have hgood:FdGood ⟨rA,rC,r,us⟩ C:=⟨by show 0≤rA∧rA < 10;omega,by show rA≤rC∧rC≤20;omega,by show 0≤r∧r≤2 * C;omega,hus.mono j1⟩
    have hgood2:∀ y ∈ fs ++ [(⟨rA,rC,r,us⟩:Fd)],FdGood y C:=fun y hy=>by
      rcases List.mem_append.1 hy with hy|hy
      · exact hfd y hy
      · rw [List.mem_singleton.1 hy];exact hgood
    have n57:¬ (c2+1,57)=b:=fun e=>by have:c2+1=b.1:=congrArg Prod.fst e;omega
    have m57:¬ b=(c2+1,57):=fun e=>n57 e.symm
    have hol:∀ b':Nat × Nat,b'.1 < h.clk→¬ b'=(c2+1,57):=fun b' hb' e=>by rw [e] at hb';dsimp only at hb';omega
    rcases hS with ⟨rfl,e1⟩|⟨b1,rfl,q2,q3,q4⟩
    · have e1':fs=[]:=by simpa using e1
      subst e1'
      refine st_run tab mixed (f2:=⟨82,[8,9,12],[31,50,56,78],none,[(16,[0,1,0,4,0,28,0,0,128,508,1020,2044,4095,8191,16383],[(0,false),(1,true),(2,false),(4,false),(6,false),(7,false),(8,false),(3,false),(5,false),(9,false),(10,false),(11,false),(12,false),(13,false),(14,false)])]⟩) rfl rfl (by decide) ?_
      repeat' (first|refine st_reg rfl (by first|(simp only[go_sem,big,length_map,hck];rfl)|rfl) (by first|(simp only[go_sem,big,length_map,hck];rfl)|rfl) ?_|refine st_op ?_|refine st_det rfl (by simp (disch:=omega) only[go_sem,wr_i64,if_yes,if_no,↓reduceIte,reduceAdd,reduceMul,reduceEqDiff,Nat.reduceBEq,reduceLeDiff,big,length_map,hck];rfl) ?_|refine st_store (by simp (disch:=omega) only[go_sem,wr_i64,if_yes,if_no,↓reduceIte,reduceAdd,reduceMul,reduceEqDiff,Nat.reduceBEq,reduceLeDiff,big,length_map,hck];rfl) ?_|refine st_append (by simp (disch:=omega) only[go_sem,wr_i64,if_yes,if_no,↓reduceIte,reduceAdd,reduceMul,reduceEqDiff,Nat.reduceBEq,reduceLeDiff,big,length_map,hck];rfl) ?_|refine st_nil ?_|refine st_tN ?_|refine st_bN ?_)
      refine ⟨⟨i - 1,x2,.slc (c2+1,57) 4 0 1,[⟨rA,rC,r,us⟩],_⟩,(by refine ⟨hG2.to hu2 (by simp only[go_sem,m57,↓reduceIte];exact hdH) (fun b' h1 h2=>by simp only[go_sem,hol b' h1,↓reduceIte];exact hnW b' (by omega)) hlp (by simp only[go_sem];omega),by show 0≤i - 1;omega,by show (1:Int)+(i - 1)≤F;have:(0:Int)+i≤F:=le;omega,.inr ⟨(c2+1,57),rfl,by simp only[go_sem,↓reduceIte] <;> rfl,by show h.clk≤c2+1;omega,by simp only[go_sem];omega⟩,fun y hy=>by rw [List.mem_singleton.1 hy];exact hgood⟩),by show (i - 1).toNat < i.toNat;omega,(by repeat' (first|exact trivial|refine And.intro ?_ ?_|rfl|(simp (disch:=omega) only[go_sem,if_yes,if_no,↓reduceIte,reduceAdd,reduceMul,reduceEqDiff,Nat.reduceBEq,reduceLeDiff];rfl)|(simp (disch:=omega) only[go_sem,if_yes,if_no,↓reduceIte,reduceAdd,reduceMul,reduceEqDiff,Nat.reduceBEq,reduceLeDiff]))),(by repeat' (first|exact trivial|refine And.intro ?_ ?_|rfl|(simp (disch:=omega) only[go_sem,if_yes,if_no,↓reduceIte,reduceAdd,reduceMul,reduceEqDiff,Nat.reduceBEq,reduceLeDiff];rfl)|(simp (disch:=omega) only[go_sem,if_yes,if_no,↓reduceIte,reduceAdd,reduceMul,reduceEqDiff,Nat.reduceBEq,reduceLeDiff]))),rfl,HOld.refl _⟩
    · have q5:H'.at_ b1=some ⟨4,fs.map Fd.row⟩:=by
        rw [hnW b1 (by omega)]
        rcases hS2 with ⟨e,_⟩|⟨b1',e,q6,_⟩
        · cases e
        · injection e with e';rw [e'];exact q6
      have hb1:∀ b':Nat × Nat,b'.1 < h.clk→¬ b'=b1:=fun b' hb' e=>by rw [e] at hb';omega
      have n1b:¬ b=b1:=fun e=>by rw [e] at hold;omega
      refine st_run tab mixed (f2:=⟨82,[8,9,12],[31,50,56,78],none,[(16,[0,1,0,4,0,28,0,0,128,508,1020,2044,4095,8191,16383],[(0,false),(1,true),(2,false),(4,false),(6,false),(7,false),(8,false),(3,false),(5,false),(9,false),(10,false),(11,false),(12,false),(13,false),(14,false)])]⟩) rfl rfl (by decide) ?_
      repeat' (first|refine st_reg rfl (by first|(simp only[go_sem,big,length_map,hck,q5];rfl)|rfl) (by first|(simp only[go_sem,big,length_map,hck,q5];rfl)|rfl) ?_|refine st_op ?_|refine st_det rfl (by simp (disch:=omega) only[go_sem,wr_i64,if_yes,if_no,↓reduceIte,reduceAdd,reduceMul,reduceEqDiff,Nat.reduceBEq,reduceLeDiff,big,length_map,hck,q5];rfl) ?_|refine st_store (by simp (disch:=omega) only[go_sem,wr_i64,if_yes,if_no,↓reduceIte,reduceAdd,reduceMul,reduceEqDiff,Nat.reduceBEq,reduceLeDiff,big,length_map,hck,q5];rfl) ?_|refine st_append (by simp (disch:=omega) only[go_sem,wr_i64,if_yes,if_no,↓reduceIte,reduceAdd,reduceMul,reduceEqDiff,Nat.reduceBEq,reduceLeDiff,big,length_map,hck,q5];rfl) ?_|refine st_nil ?_|refine st_tN ?_|refine st_bN ?_)
      refine ⟨⟨i - 1,x2,.slc (c2+1,57) 4 0 (fs.length+1),fs ++ [⟨rA,rC,r,us⟩],_⟩,(by refine ⟨hG2.to hu2 (by simp only[go_sem,m57,n1b,↓reduceIte];exact hdH) (fun b' h1 h2=>by simp only[go_sem,hol b' h1,hb1 b' h1,↓reduceIte];exact hnW b' (by omega)) hlp (by simp only[go_sem];omega),by show 0≤i - 1;omega,by rw [List.length_append];show ((fs.length+1:Nat):Int)+(i - 1)≤F;omega,.inr ⟨(c2+1,57),by rw [length_map,List.length_append];rfl,by simp only[go_sem,↓reduceIte];rw [List.map_append,List.take_of_length_le (by simp)];rfl,by show h.clk≤c2+1;omega,by simp only[go_sem];omega⟩,hgood2⟩),by show (i - 1).toNat < i.toNat;omega,(by repeat' (first|exact trivial|refine And.intro ?_ ?_|rfl|(simp (disch:=omega) only[go_sem,if_yes,if_no,↓reduceIte,reduceAdd,reduceMul,reduceEqDiff,Nat.reduceBEq,reduceLeDiff];rfl)|(simp (disch:=omega) only[go_sem,if_yes,if_no,↓reduceIte,reduceAdd,reduceMul,reduceEqDiff,Nat.reduceBEq,reduceLeDiff]))),(by repeat' (first|exact trivial|refine And.intro ?_ ?_|rfl|(simp (disch:=omega) only[go_sem,if_yes,if_no,↓reduceIte,reduceAdd,reduceMul,reduceEqDiff,Nat.reduceBEq,reduceLeDiff];rfl)|(simp (disch:=omega) only[go_sem,if_yes,if_no,↓reduceIte,reduceAdd,reduceMul,reduceEqDiff,Nat.reduceBEq,reduceLeDiff]))),rfl,HOld.refl _⟩
  have hvb:∀ (b1:Nat × Nat) m,v=.slc b1 4 0 m→b1.1 < c:=fun b1 m e=>by
    rcases hS with ⟨e',_⟩|⟨b1',e',_,_,q⟩
    · rw [e'] at e;cases e
    · rw [e'] at e;injection e with e1;rw [← e1];omega
  have hul:=hus.len
  rcases hW with ⟨rfl,e2⟩|⟨b2,rfl,q2,q3,q4⟩
  · have e2':us=[]:=by simpa using e2
    subst e2'
    repeat' (first|refine st_seq_reg rfl (by first|(simp only[go_sem,hd2,big];rfl)|rfl) (by first|(simp only[go_sem,hd2,big];rfl)|rfl) ?_|refine st_reg rfl (by first|(simp only[go_sem,hd2,big];rfl)|rfl) (by first|(simp only[go_sem,hd2,big];rfl)|rfl) ?_|refine st_op ?_|refine st_det rfl (by simp (disch:=omega) only[go_sem,wr_i64,if_yes,if_no,↓reduceIte,reduceAdd,reduceMul,reduceEqDiff,Nat.reduceBEq,reduceLeDiff,hd2,big];rfl) ?_|refine st_store (by simp (disch:=omega) only[go_sem,wr_i64,if_yes,if_no,↓reduceIte,reduceAdd,reduceMul,reduceEqDiff,Nat.reduceBEq,reduceLeDiff,hd2,big];rfl) ?_|refine st_append (by simp (disch:=omega) only[go_sem,wr_i64,if_yes,if_no,↓reduceIte,reduceAdd,reduceMul,reduceEqDiff,Nat.reduceBEq,reduceLeDiff,hd2,big];rfl) ?_|(refine st_drum (by first|(simp (disch:=omega) only[go_sem,hd2,big];rfl)|rfl) rfl (c28 b 3 (by decide)) (by first|(simp (disch:=omega) only[go_sem,hd2,big];rfl)|rfl|exact put_same _ _ _) (by assumption) (by first|(simp only[go_sem,hd2,big];rfl)|rfl) (by intro x' n;first|(simp (disch:=omega) only[go_sem];rfl)|rfl) ?_;rintro v x' n hu' ⟨rb,rfl⟩ hn)|(refine st_condS rfl ?_ ?_ <;> intro hg <;> (try simp only[decide_eq_true_eq,decide_eq_false_iff_not,Bool.not_eq_true',Bool.not_eq_false'] at hg))|refine st_nil ?_|refine st_tN ?_|refine st_seq ?_|refine st_block ?_|refine st_skip ?_|refine st_exit ?_|refine st_tE ?_|refine st_bN ?_|refine st_bH ?_)
    · have m51:¬ b=(n,51):=fun e=>by have:b.1=n:=congrArg Prod.fst e;omega
      have hol:∀ b':Nat × Nat,b'.1 < n→¬ b'=(n,51):=fun b' hb' e=>by rw [e] at hb';exact Nat.lt_irrefl _ hb'
      refine ⟨⟨j+1,x',.slc (n,51) 1 0 1,[((j:Nat):Int)],_⟩,(by refine ⟨hG2.to hu' (by simp only[go_sem,m51,↓reduceIte]) (fun b' h1 h2=>by simp only[go_sem,hol b' (by omega),h2,↓reduceIte]) rfl (by simp only[go_sem];omega),by simp only[go_sem];omega,by show j+1≤3;omega,hus.add,hS2.to (fun b1 m e h1 h2=>by simp only[go_sem,hol b1 (by omega),nbb h1,↓reduceIte]) (by simp only[go_sem];omega),.inr ⟨(n,51),rfl,by simp only[go_sem,↓reduceIte] <;> rfl,by show h.clk≤n;omega,by simp only[go_sem];omega⟩,fun b3 m e=>by injection e with e1;rw [← e1];show c≤n;omega⟩),by show 3 - (j+1) < 3 - j;omega,(by repeat' (first|exact trivial|refine And.intro ?_ ?_|rfl|(simp (disch:=omega) only[go_sem,if_yes,if_no,↓reduceIte,reduceAdd,reduceMul,reduceEqDiff,Nat.reduceBEq,reduceLeDiff];rfl)|(simp (disch:=omega) only[go_sem,if_yes,if_no,↓reduceIte,reduceAdd,reduceMul,reduceEqDiff,Nat.reduceBEq,reduceLeDiff]))),(by repeat' (first|exact trivial|refine And.intro ?_ ?_|rfl|(simp (disch:=omega) only[go_sem,if_yes,if_no,↓reduceIte,reduceAdd,reduceMul,reduceEqDiff,Nat.reduceBEq,reduceLeDiff];rfl)|(simp (disch:=omega) only[go_sem,if_yes,if_no,↓reduceIte,reduceAdd,reduceMul,reduceEqDiff,Nat.reduceBEq,reduceLeDiff]))),rfl,HOld.refl _⟩
    · refine ⟨⟨j+1,x',.nils,[],_⟩,(by refine ⟨hG2.to hu' (by simp only[go_sem,↓reduceIte]) (fun b' h1 h2=>by simp only[go_sem,h2,↓reduceIte]) rfl (by simp only[go_sem];omega),by simp only[go_sem];omega,by show j+1≤3;omega,hus.mono (Nat.le_succ _),hS2.to (fun b1 m e h1 h2=>by simp only[go_sem,nbb h1,↓reduceIte]) (by simp only[go_sem];omega),.inl ⟨rfl,rfl⟩,fun b3 m e=>by cases e⟩),by show 3 - (j+1) < 3 - j;omega,(by repeat' (first|exact trivial|refine And.intro ?_ ?_|rfl|(simp (disch:=omega) only[go_sem,if_yes,if_no,↓reduceIte,reduceAdd,reduceMul,reduceEqDiff,Nat.reduceBEq,reduceLeDiff];rfl)|(simp (disch:=omega) only[go_sem,if_yes,if_no,↓reduceIte,reduceAdd,reduceMul,reduceEqDiff,Nat.reduceBEq,reduceLeDiff]))),(by repeat' (first|exact trivial|refine And.intro ?_ ?_|rfl|(simp (disch:=omega) only[go_sem,if_yes,if_no,↓reduceIte,reduceAdd,reduceMul,reduceEqDiff,Nat.reduceBEq,reduceLeDiff];rfl)|(simp (disch:=omega) only[go_sem,if_yes,if_no,↓reduceIte,reduceAdd,reduceMul,reduceEqDiff,Nat.reduceBEq,reduceLeDiff]))),rfl,HOld.refl _⟩
    · exfalso;omega
  · have hwc2:=hwc _ _ rfl
    have n2:¬ b2=b:=nbb q3
    have n3:¬ b=b2:=fun e=>n2 e.symm
    repeat' (first|refine st_seq_reg rfl (by first|(simp only[go_sem,hd2,big,length_map,q2,n2,n3];rfl)|rfl) (by first|(simp only[go_sem,hd2,big,length_map,q2,n2,n3];rfl)|rfl) ?_|refine st_reg rfl (by first|(simp only[go_sem,hd2,big,length_map,q2,n2,n3];rfl)|rfl) (by first|(simp only[go_sem,hd2,big,length_map,q2,n2,n3];rfl)|rfl) ?_|refine st_op ?_|refine st_det rfl (by simp (disch:=omega) only[go_sem,wr_i64,if_yes,if_no,↓reduceIte,reduceAdd,reduceMul,reduceEqDiff,Nat.reduceBEq,reduceLeDiff,hd2,big,length_map,q2,n2,n3];rfl) ?_|refine st_store (by simp (disch:=omega) only[go_sem,wr_i64,if_yes,if_no,↓reduceIte,reduceAdd,reduceMul,reduceEqDiff,Nat.reduceBEq,reduceLeDiff,hd2,big,length_map,q2,n2,n3];rfl) ?_|refine st_append (by simp (disch:=omega) only[go_sem,wr_i64,if_yes,if_no,↓reduceIte,reduceAdd,reduceMul,reduceEqDiff,Nat.reduceBEq,reduceLeDiff,hd2,big,length_map,q2,n2,n3];rfl) ?_|(refine st_drum (by first|(simp (disch:=omega) only[go_sem,hd2,big,length_map,q2,n2,n3];rfl)|rfl) rfl (c28 b 3 (by decide)) (by first|(simp (disch:=omega) only[go_sem,hd2,big,length_map,q2,n2,n3];rfl)|rfl|exact put_same _ _ _) (by assumption) (by first|(simp only[go_sem,hd2,big,length_map,q2,n2,n3];rfl)|rfl) (by intro x' n;first|(simp (disch:=omega) only[go_sem];rfl)|rfl) ?_;rintro v x' n hu' ⟨rb,rfl⟩ hn)|(refine st_condS rfl ?_ ?_ <;> intro hg <;> (try simp only[decide_eq_true_eq,decide_eq_false_iff_not,Bool.not_eq_true',Bool.not_eq_false'] at hg))|refine st_nil ?_|refine st_tN ?_|refine st_seq ?_|refine st_block ?_|refine st_skip ?_|refine st_exit ?_|refine st_tE ?_|refine st_bN ?_|refine st_bH ?_)
    · have m51:¬ b=(n,51):=fun e=>by have:b.1=n:=congrArg Prod.fst e;omega
      have hol:∀ b':Nat × Nat,b'.1 < n→¬ b'=(n,51):=fun b' hb' e=>by rw [e] at hb';exact Nat.lt_irrefl _ hb'
      have ho2:∀ b':Nat × Nat,b'.1 < h.clk→¬ b'=b2:=fun b' hb' e=>by rw [e] at hb';omega
      refine ⟨⟨j+1,x',.slc (n,51) 1 0 (us.length+1),us ++ [((j:Nat):Int)],_⟩,(by refine ⟨hG2.to hu' (by simp only[go_sem,m51,n3,↓reduceIte]) (fun b' h1 h2=>by simp only[go_sem,hol b' (by omega),ho2 b' h1,h2,↓reduceIte]) rfl (by simp only[go_sem];omega),by simp only[go_sem];omega,by show j+1≤3;omega,hus.add,hS2.to (fun b1 m e h1 h2=>by have h3:=hvb b1 m e;have h4:¬ b1=b2:=(fun e=>by rw [e] at h3;omega);simp only[go_sem,hol b1 (by omega),nbb h1,h4,↓reduceIte]) (by simp only[go_sem];omega),.inr ⟨(n,51),by rw [length_map,List.length_append];rfl,by simp only[go_sem,↓reduceIte];rw [List.map_append,List.take_of_length_le (by simp)];rfl,by show h.clk≤n;omega,by simp only[go_sem];omega⟩,fun b3 m e=>by injection e with e1;rw [← e1];show c≤n;omega⟩),by show 3 - (j+1) < 3 - j;omega,(by repeat' (first|exact trivial|refine And.intro ?_ ?_|rfl|(simp (disch:=omega) only[go_sem,if_yes,if_no,↓reduceIte,reduceAdd,reduceMul,reduceEqDiff,Nat.reduceBEq,reduceLeDiff];rfl)|(simp (disch:=omega) only[go_sem,if_yes,if_no,↓reduceIte,reduceAdd,reduceMul,reduceEqDiff,Nat.reduceBEq,reduceLeDiff]))),(by repeat' (first|exact trivial|refine And.intro ?_ ?_|rfl|(simp (disch:=omega) only[go_sem,if_yes,if_no,↓reduceIte,reduceAdd,reduceMul,reduceEqDiff,Nat.reduceBEq,reduceLeDiff];rfl)|(simp (disch:=omega) only[go_sem,if_yes,if_no,↓reduceIte,reduceAdd,reduceMul,reduceEqDiff,Nat.reduceBEq,reduceLeDiff]))),rfl,HOld.refl _⟩
    · refine ⟨⟨j+1,x',.slc b2 1 0 us.length,us,_⟩,(by refine ⟨hG2.to hu' (by simp only[go_sem,↓reduceIte]) (fun b' h1 h2=>by simp only[go_sem,h2,↓reduceIte]) rfl (by simp only[go_sem];omega),by simp only[go_sem];omega,by show j+1≤3;omega,hus.mono (Nat.le_succ _),hS2.to (fun b1 m e h1 h2=>by simp only[go_sem,nbb h1,↓reduceIte]) (by simp only[go_sem];omega),.inr ⟨b2,by rw [length_map],by simp only[go_sem,n2,↓reduceIte];exact q2,q3,by simp only[go_sem];omega⟩,fun b3 m e=>by injection e with e1;rw [← e1];exact hwc2⟩),by show 3 - (j+1) < 3 - j;omega,(by repeat' (first|exact trivial|refine And.intro ?_ ?_|rfl|(simp (disch:=omega) only[go_sem,if_yes,if_no,↓reduceIte,reduceAdd,reduceMul,reduceEqDiff,Nat.reduceBEq,reduceLeDiff];rfl)|(simp (disch:=omega) only[go_sem,if_yes,if_no,↓reduceIte,reduceAdd,reduceMul,reduceEqDiff,Nat.reduceBEq,reduceLeDiff]))),(by repeat' (first|exact trivial|refine And.intro ?_ ?_|rfl|(simp (disch:=omega) only[go_sem,if_yes,if_no,↓reduceIte,reduceAdd,reduceMul,reduceEqDiff,Nat.reduceBEq,reduceLeDiff];rfl)|(simp (disch:=omega) only[go_sem,if_yes,if_no,↓reduceIte,reduceAdd,reduceMul,reduceEqDiff,Nat.reduceBEq,reduceLeDiff]))),rfl,HOld.refl _⟩
    · exfalso;omega
end Go.Proofs.YtefogfgddofdmaaGreatDoor
