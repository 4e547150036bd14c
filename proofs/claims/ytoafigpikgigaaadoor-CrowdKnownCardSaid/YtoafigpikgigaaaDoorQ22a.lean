/- Contracts of functions that the claim reaches: what each call gives, told in our own logic. Conditions: those of each theorem. -/
import Derived.Test.YtoafigpikgigaaaDoorQ19
open List (length_map)
set_option linter.all false
set_option linter.unusedSimpArgs false
set_option linter.unusedVariables false
namespace Go.Proofs.YtoafigpikgigaaaDoor
open Go.Av
attribute [local irreducible] thenA blockA awp awpOps awpD awp1
attribute [local go_sem_proc] Nat.reduceAdd Nat.reduceMul Nat.reduceEqDiff Nat.reduceBEq Nat.reduceLeDiff
attribute [local go_sem_proc ↓] reduceIte
attribute [local go_sem] if_yes if_no
set_option maxHeartbeats 8000000
set_option maxRecDepth 20000
def okB (t:Tw) (l:List Int):Bool:=(crL t (cls l)).isEmpty
def cloV (t:Tw) (most:Nat):AV:=match clo t most with
 | some l=>.tup [.lst 1 (l.map iv),.bool true]
 | none=>.tup [.nils,.bool false]
theorem catN_fpre {α:Type} {g:Nat→List α} {p:α→Bool} {x:α} {k:Nat} (h:(catN g k).find? p=some x):∀ {j:Nat},k≤j→(catN g j).find? p=some x
 | 0,hj=>by
  obtain rfl:k=0:=by omega
  exact h
 | j+1,hj=>by
  by_cases e:k=j+1
  ·rw [← e];exact h
  ·show (catN g j ++ g j).find? p=some x
   rw [List.find?_append,catN_fpre h (by omega)];rfl
theorem elt_all {l:List Int} {p:Int→Prop} (h:∀ x,x ∈ l→p x):∀ i,i < l.length→p (elt l i):=fun i hi=>h _ (elt_mem hi)
theorem c31 (t:Tw) (most:Nat) (hmo:most≤12) (hT:TwOk t):Pure Tryd.prog 31 [t.av,.int .i64 (most:Nat)] (fun v=>v=cloV t most):=by
 have hsn:=hT.sn
 have hC:clo t most=(catN (fun m=>chs t.sts.length m 0) (min most t.sts.length+1)).find? (okB t):=rfl
 have hminI:min ((most:Nat):Int) (t.sts.length:Int)=((min most t.sts.length:Nat):Int):=by omega
 have hminN:min most t.sts.length≤12:=by omega
 generalize min most t.sts.length=mm at *
 intro h
 have hn4:∀ b':Nat × Nat,b'.1 < h.clk→¬ b'=(h.clk,4):=fun b' hb'=>ne_fst hb' (Nat.le_refl _)
 have hn5:∀ b':Nat × Nat,b'.1 < h.clk→¬ b'=(h.clk,5):=fun b' hb'=>ne_fst hb' (Nat.le_refl _)
 have h45:¬ ((h.clk,4):Nat × Nat)=(h.clk,5):=ne_snd (by decide)
 have h54:¬ ((h.clk,5):Nat × Nat)=(h.clk,4):=ne_snd (by decide)
 let A:AH→Prop:=fun g=>h.clk+1≤g.clk∧(∀ b':Bid,b'.1 < h.clk→g.at_ b'=h.at_ b')
 let Z:AH→Prop:=fun g=>g.at_ (h.clk,4)=some ⟨1,[[.nils]]⟩∧g.at_ (h.clk,5)=some ⟨1,[[.bool false]]⟩
 refine ACalls.forget (ACalls.of tab mixed Tryd.call31 Tryd.func31 rfl (fi:=⟨35,[8],[2],none,[(6,[0,1,0,7,15,31,31,0,191,511],[(0,false),(2,true),(7,false),(1,false),(3,false),(4,false),(5,false),(6,false),(8,false),(9,false)])]⟩) rfl rfl (Nat.le_of_ble_eq_true rfl) (by decide) ?_)
 unfold startA
 simp only[go_sem]
 repeat' (first|refine st_seq_reg rfl (by first|(simp only[go_sem];rfl)|rfl) (by first|(simp only[go_sem];rfl)|rfl) ?_|refine st_op ?_|refine st_det rfl (by simp (disch:=omega) only[go_sem,wr_i64];rfl) ?_|refine st_heap rfl (by simp (disch:=omega) only[go_sem,wr_i64];rfl) ?_|refine st_nil ?_|refine st_seq ?_|refine st_block ?_)
 refine st_loopM (α:=Nat × AH) tab mixed [] [] (by repeat (first|exact trivial|refine ⟨rfl,?_⟩)) [] [] (by repeat (first|exact trivial|refine ⟨rfl,?_⟩)) (fun a=>[(6,.int .i64 (a.1:Nat))]) [(1,_),(2,_),(4,_),(5,_)] (fun _=>[]) [] (fun a=>a.2) (fun a=>a.1≤mm+1∧(catN (fun m=>chs t.sts.length m 0) a.1).find? (okB t)=none∧A a.2∧Z a.2∧a.2.lp=h.lp) (fun a=>mm+1 - a.1) (by decide) (0,((h.tick (h.clk+1)).put (h.clk,4) (some ⟨1,[[.nils]]⟩)).put (h.clk,5) (some ⟨1,[[.bool false]]⟩)) ⟨Nat.zero_le _,rfl,⟨by simp only[go_sem];omega,fun b' hb'=>by simp only[go_sem,if_neg (hn4 b' hb'),if_neg (hn5 b' hb')]⟩,⟨by simp only[go_sem,h45,h54,↓reduceIte],by simp only[go_sem,h45,h54,↓reduceIte]⟩,rfl⟩ (by (try simp only[go_sem]);repeat' (first|exact trivial|refine And.intro ?_ ?_|rfl|(simp (disch:=omega) only[go_sem,if_yes,if_no,if_no];rfl)|(simp (disch:=omega) only[go_sem,if_yes,if_no,if_no]))) (by (try simp only[go_sem]);repeat' (first|exact trivial|refine And.intro ?_ ?_|rfl|(simp (disch:=omega) only[go_sem,if_yes,if_no,if_no];rfl)|(simp (disch:=omega) only[go_sem,if_yes,if_no,if_no]))) (HOld.tick (by simp only[go_sem];omega)) ?_
 rintro ⟨m,g⟩ c M2 ⟨i1,i2,⟨i3,i4⟩,⟨i5,i6⟩,i7⟩ hc
 dsimp only at i1 i2 i3 i4 i5 i6 i7 hc
 simp only[go_sem]
 by_cases hm:m < mm+1
 case neg =>
  obtain rfl:m=mm+1:=by omega
  rw [i2] at hC
  repeat' (first|refine st_seq_reg rfl (by first|(simp only[go_sem,length_map,hminI,i5,i6,h45,h54];rfl)|rfl) (by first|(simp only[go_sem,length_map,hminI,i5,i6,h45,h54];rfl)|rfl) ?_|refine st_op ?_|refine st_det rfl (by simp (disch:=omega) only[go_sem,wr_i64,length_map,hminI,i5,i6,h45,h54];rfl) ?_|refine st_store (by simp (disch:=omega) only[go_sem,wr_i64,length_map,hminI,i5,i6,h45,h54];rfl) ?_|(refine st_condS rfl ?_ ?_ <;> intro hg <;> (try simp only[dcT,dcF,bnT,bnF] at hg))|refine st_nil ?_|refine st_tN ?_|refine st_seq ?_|refine st_block ?_|refine st_skip ?_|refine st_exit ?_|refine st_ret ?_|refine st_tE ?_|refine st_bH ?_)
  all_goals try (exfalso;omega)
  simp (disch:=omega) only[AEnd,Tryd.results31,aresK,fin,go_sem,implies_true,true_and,and_true,List.reverse_cons,List.reverse_nil,h45,h54]
  refine ⟨fun b' hb'=>by rw [if_neg (hn5 b' hb'),if_neg (hn4 b' hb')];exact i4 b' hb',i7,?_⟩
  unfold cloV;rw [hC]
 have k105:=c54 (t.sts.length:Nat) (m:Nat)
 repeat' (first|refine st_seq_reg rfl (by first|(simp only[go_sem,length_map,hminI];rfl)|rfl) (by first|(simp only[go_sem,length_map,hminI];rfl)|rfl) ?_|refine st_op ?_|refine st_det rfl (by simp (disch:=omega) only[go_sem,wr_i64,length_map,hminI];rfl) ?_|(refine st_pureE (by first|(simp (disch:=omega) only[go_sem,length_map,hminI];rfl)|rfl) rfl (k105) (by first|(simp only[go_sem,length_map,hminI];rfl)|rfl) (by intro n;first|(simp (disch:=omega) only[go_sem];rfl)|rfl) ?_;intro n hn)|(refine st_condS rfl ?_ ?_ <;> intro hg <;> (try simp only[dcT,dcF,bnT,bnF] at hg))|refine st_nil ?_|refine st_tN ?_|refine st_seq ?_|refine st_block ?_|refine st_skip ?_|refine st_exit ?_|refine st_tE ?_|refine st_bH ?_)
 all_goals try (exfalso;omega)
 refine st_rangeFunc rfl (by simp only[go_sem];rfl) (fun lp D R hR hlp=>?_)
 simp only[go_sem] at hlp
 let L:AH→Prop:=fun g'=>∀ l',l' ≠ lp→g'.lp l'=h.lp l'
 let I:AH→Prop:=fun g'=>g'.lp lp=some R∧L g'∧A g'∧Z g'
 let E:List Int→AH→Prop:=fun x g'=>g'.lp lp=some (R.stop .ret)∧L g'∧A g'∧g'.at_ (h.clk,4)=some ⟨1,[[.lst 1 (x.map iv)]]⟩∧g'.at_ (h.clk,5)=some ⟨1,[[.bool true]]⟩
 have hlp2:∀ h':AH,L h'→(h'.lpSet lp none).lp=h.lp:=by
  intro h' h3
  funext l'
  by_cases e:l'=lp
  ·rw [e,lpSet_same,← i7,hlp]
  ·rw [lpSet_ne _ _ e];exact h3 l' e
 refine (c60 lp t.sts.length m hsn (by omega) I E (okB t) _ ?_ ?_ ?_ ?_ ?_).mono ?_
 ·rintro g' k ⟨h1,h2,⟨h3,h3'⟩,h4⟩ hk
  exact ⟨h1,h2,⟨by show h.clk+1≤k;omega,h3'⟩,h4⟩
 ·rintro g' b k ⟨h1,h2,⟨h3,h3'⟩,h4,h5⟩ hkb
  simp only[go_sem] at hkb
  have q4:¬ ((h.clk,4):Nat × Nat)=b:=ne_fst (n:=n) (by show h.clk < n;omega) hkb
  have q5:¬ ((h.clk,5):Nat × Nat)=b:=ne_fst (n:=n) (by show h.clk < n;omega) hkb
  have hob:∀ b':Bid,b'.1 < h.clk→¬ b'=b:=fun b' hb'=>ne_fst (n:=n) (by omega) hkb
  exact ⟨h1,h2,⟨h3,fun b' hb'=>by simp only[go_sem];rw [if_neg (hob b' hb')];exact h3' b' hb'⟩,by simp only[go_sem,q4,↓reduceIte];exact h4,by simp only[go_sem,q5,↓reduceIte];exact h5⟩
 ·rintro x g' k ⟨h1,h2,⟨h3,h3'⟩,h4⟩ hk
  exact ⟨h1,h2,⟨by show h.clk+1≤k;omega,h3'⟩,h4⟩
 ·rintro xs g' hxs hxl hcg ⟨h1,h2,⟨h3,h3'⟩,h4,h5⟩
  simp only[go_sem] at hcg ⊢
  have k83:=c23 xs (by omega) (elt_all (p:=fun x=>0≤x∧x < 12) fun x hx=>by have:=hxs x hx;omega)
  have k95:=c47 t (cls xs) hT
  have hg':∀ b:Bid,n≤b.1→¬ b=(h.clk,4)∧¬ b=(h.clk,5):=fun b hb=>⟨fun e=>by rw [e] at hb;dsimp only at hb;omega,fun e=>by rw [e] at hb;dsimp only at hb;omega⟩
  refine AYields.canonD tab mixed [8] [] [(6,[0,1,0,7,15,31,31,0,191,511],[(0,false),(2,true),(7,false),(1,false),(3,false),(4,false),(5,false),(6,false),(8,false),(9,false)])] hR h1 rfl (by intro p hp;simp at hp;rcases hp with rfl;decide) [(24,.lst 1 (xs.map iv)),(2,.iptr t.cells 0),(4,.ptr (h.clk,4) 0 0),(5,.ptr (h.clk,5) 0 0)] ⟨rfl,rfl,rfl,rfl,trivial⟩ (by decide) (by decide) ?_
  unfold Tw.cells
  simp only[go_sem]
  repeat' (first|refine st_reg rfl (by first|(simp only[go_sem];rfl)|rfl) (by first|(simp only[go_sem];rfl)|rfl) ?_|refine st_op ?_|refine st_det rfl (by simp (disch:=omega) only[go_sem,wr_i64];rfl) ?_|refine st_nil ?_|refine st_tN ?_)
  refine ⟨by simp only[go_sem];exact h1,?_⟩
  dsimp only
  have hok:okB t xs=(crL t (cls xs)).isEmpty:=rfl
  unfold crV at k95
  cases hcr:crL t (cls xs) with
  | nil =>
   rw [hcr] at k95 hok
   dsimp only at k95
   repeat' (first|refine st_seq_reg rfl (by first|(simp only[go_sem,h4,h5,h45,h54];rfl)|rfl) (by first|(simp only[go_sem,h4,h5,h45,h54];rfl)|rfl) ?_|refine st_seq_draw rfl (by first|(simp only[go_sem,h4,h5,h45,h54];rfl)|rfl) (by first|(simp only[go_sem,h4,h5,h45,h54];rfl)|rfl) ?_|refine st_op ?_|refine st_det rfl (by simp (disch:=omega) only[go_sem,wr_i64,h4,h5,h45,h54];rfl) ?_|refine st_dop rfl ?_|refine st_loc rfl (by simp (disch:=omega) only[go_sem,wr_i64,h4,h5,h45,h54];rfl) ?_|refine st_store (by simp (disch:=omega) only[go_sem,wr_i64,h4,h5,h45,h54];rfl) ?_|(refine st_pureE (by first|(simp (disch:=omega) only[go_sem,h4,h5,h45,h54];rfl)|rfl) rfl (k83) (by first|(simp only[go_sem,h4,h5,h45,h54];rfl)|rfl) (by intro n;first|(simp (disch:=omega) only[go_sem];rfl)|rfl) ?_;intro n hn)|(refine st_pureE (by first|(simp (disch:=omega) only[go_sem,h4,h5,h45,h54];rfl)|rfl) rfl (k95) (by first|(simp only[go_sem,h4,h5,h45,h54];rfl)|rfl) (by intro n;first|(simp (disch:=omega) only[go_sem];rfl)|rfl) ?_;intro n hn)|refine st_condT rfl ?_|refine st_nil ?_|refine st_dnil ?_|refine st_block ?_|refine st_ret ?_|refine st_bR ?_)
   refine ⟨by simp only[go_sem],?_,fun b hb1 hb2=>?_,.inr ⟨hok,rfl,lpSet_same _ _ _,fun l' hl'=>?_,⟨?_,fun b' hb'=>?_⟩,?_,?_⟩⟩
   ·simp only[go_sem];omega
   ·simp only[go_sem,if_neg (hg' b hb1).1,if_neg (hg' b hb1).2]
   ·rw [lpSet_ne _ _ hl'];simp only[go_sem];rw [lpSet_ne _ _ hl'];exact h2 l' hl'
   ·simp only[go_sem];omega
   ·simp only[go_sem,if_neg (hn5 b' hb'),if_neg (hn4 b' hb')];exact h3' b' hb'
   ·simp (disch:=omega) only[go_sem,h45,h54,↓reduceIte] <;> rfl
   ·simp (disch:=omega) only[go_sem,h45,h54,↓reduceIte] <;> rfl
  | cons y ys =>
   rw [hcr] at k95 hok
   dsimp only at k95
   repeat' (first|refine st_seq_reg rfl (by first|(simp only[go_sem,h4,h5,h45,h54];rfl)|rfl) (by first|(simp only[go_sem,h4,h5,h45,h54];rfl)|rfl) ?_|refine st_seq_draw rfl (by first|(simp only[go_sem,h4,h5,h45,h54];rfl)|rfl) (by first|(simp only[go_sem,h4,h5,h45,h54];rfl)|rfl) ?_|refine st_op ?_|refine st_det rfl (by simp (disch:=omega) only[go_sem,wr_i64,h4,h5,h45,h54];rfl) ?_|refine st_dop rfl ?_|refine st_loc rfl (by simp (disch:=omega) only[go_sem,wr_i64,h4,h5,h45,h54];rfl) ?_|refine st_store (by simp (disch:=omega) only[go_sem,wr_i64,h4,h5,h45,h54];rfl) ?_|(refine st_pureE (by first|(simp (disch:=omega) only[go_sem,h4,h5,h45,h54];rfl)|rfl) rfl (k83) (by first|(simp only[go_sem,h4,h5,h45,h54];rfl)|rfl) (by intro n;first|(simp (disch:=omega) only[go_sem];rfl)|rfl) ?_;intro n hn)|(refine st_pureE (by first|(simp (disch:=omega) only[go_sem,h4,h5,h45,h54];rfl)|rfl) rfl (k95) (by first|(simp only[go_sem,h4,h5,h45,h54];rfl)|rfl) (by intro n;first|(simp (disch:=omega) only[go_sem];rfl)|rfl) ?_;intro n hn)|refine st_condF rfl ?_|refine st_nil ?_|refine st_dnil ?_|refine st_block ?_|refine st_skip ?_|refine st_bN ?_)
   refine ⟨by simp only[go_sem],?_,fun b hb1 hb2=>rfl,.inl ⟨hok,rfl,lpSet_same _ _ _,fun l' hl'=>?_,⟨?_,fun b' hb'=>h3' b' hb'⟩,h4,h5⟩⟩
   ·simp only[go_sem];omega
   ·rw [lpSet_ne _ _ hl'];simp only[go_sem];rw [lpSet_ne _ _ hl'];exact h2 l' hl'
   ·simp only[go_sem];omega
 ·exact ⟨lpSet_same _ _ _,fun l' hl'=>by rw [lpSet_ne _ _ hl'];simp only[go_sem];rw [i7],⟨by simp only[go_sem];omega,fun b' hb'=>i4 b' hb'⟩,i5,i6⟩
 ·have hnx:catN (fun m=>chs t.sts.length m 0) (m+1)=catN (fun m=>chs t.sts.length m 0) m ++ chs t.sts.length m 0:=rfl
  rintro v h' (⟨hf,h1,h2,⟨h3,h3'⟩,h4,h5⟩|⟨x,hf,h1,h2,⟨h3,h3'⟩,h4,h5⟩)
  ·refine .inl ⟨h1,st_bN (st_bN (st_tN ?_))⟩
   repeat' (first|refine st_reg rfl (by first|(simp only[go_sem];rfl)|rfl) (by first|(simp only[go_sem];rfl)|rfl) ?_|refine st_op ?_|refine st_det rfl (by simp (disch:=omega) only[go_sem,wr_i64];rfl) ?_|refine st_nil ?_|refine st_tN ?_)
   refine ⟨(m+1,h'.lpSet lp none),⟨by show m+1≤mm+1;omega,by show (catN _ (m+1)).find? _=none;rw [hnx];exact fnd_none i2 hf,⟨h3,fun b' hb'=>h3' b' hb'⟩,⟨h4,h5⟩,hlp2 h' h2⟩,by show mm+1 - (m+1) < mm+1 - m;omega,(by repeat' (first|exact trivial|refine And.intro ?_ ?_|rfl|(simp (disch:=omega) only[go_sem,if_yes,if_no,if_no];rfl)|(simp (disch:=omega) only[go_sem,if_yes,if_no,if_no]))),(by repeat' (first|exact trivial|refine And.intro ?_ ?_|rfl|(simp (disch:=omega) only[go_sem,if_yes,if_no,if_no];rfl)|(simp (disch:=omega) only[go_sem,if_yes,if_no,if_no]))),HOld.tick (by simp only[go_sem];omega)⟩
  ·refine .inr ⟨.ret,h1,ASem.ret (st_bR (st_bR (st_tR ?_)))⟩
   repeat' (first|refine st_tR ?_|refine st_bR ?_)
   simp (disch:=omega) only[AEnd,Tryd.results31,aresK,fin,go_sem,implies_true,true_and,and_true,List.reverse_cons,List.reverse_nil,hlp2 h' h2,h4,h5]
   refine ⟨h3',?_⟩
   have e:clo t most=some x:=by rw [hC];exact catN_fpre (k:=m+1) (by rw [hnx];exact fnd_some i2 hf) (by omega)
   unfold cloV;rw [e]
end Go.Proofs.YtoafigpikgigaaaDoor

namespace Go.Proofs.YtoafigpikgigaaaDoor
open Go.Av
attribute [local irreducible] thenA blockA awp awpOps awpD awp1
attribute [local go_sem_proc] Nat.reduceAdd Nat.reduceMul Nat.reduceEqDiff Nat.reduceBEq Nat.reduceLeDiff
attribute [local go_sem_proc ↓] reduceIte
attribute [local go_sem] if_yes if_no
set_option maxHeartbeats 8000000
set_option maxRecDepth 20000
def closeV (t:Tw):AV:=if chkE t ≠ 0 then .tup [.lst 1 [],.int .i64 (chkE t)] else match clo t t.sts.length with
 | some l=>.tup [.lst 1 (l.map iv),.int .i64 0]
 | none=>.tup [.lst 1 [],.int .i64 7]
theorem c16 (t:Tw):Pure Tryd.prog 16 [t.av] (fun v=>v=closeV t):=by
 have k51:=c6 t
 refine Pure.give Tryd.call16 fun h hall=>?_
 by_cases h0:chkE t=0
 case neg =>
  refine ACalls.of tab mixed Tryd.call16 Tryd.func16 rfl (fi:=⟨23,[],[1],none,[]⟩) rfl rfl (Nat.le_of_ble_eq_true rfl) (by decide) ?_
  unfold startA
  simp only[go_sem]
  repeat' (first|refine st_seq_reg rfl (by first|(simp only[go_sem];rfl)|rfl) (by first|(simp only[go_sem];rfl)|rfl) ?_|refine st_op ?_|refine st_det rfl (by simp (disch:=omega) only[go_sem,wr_i64];rfl) ?_|(refine st_pureE (by first|(simp (disch:=omega) only[go_sem];rfl)|rfl) rfl (k51) (by first|(simp only[go_sem];rfl)|rfl) (by intro n;first|(simp (disch:=omega) only[go_sem];rfl)|rfl) ?_;intro n hn)|(refine st_condS rfl ?_ ?_ <;> intro hg <;> (try simp only[dcT,dcF,bnT,bnF] at hg))|refine st_nil ?_|refine st_tN ?_|refine st_seq ?_|refine st_skip ?_|refine st_ret ?_|refine st_tR ?_)
  all_goals try (exfalso;omega)
  simp (disch:=omega) only[AEnd,Tryd.results16,aresK,fin,go_sem,implies_true,true_and,and_true,List.reverse_cons,List.reverse_nil]
  refine .inl ⟨_,le_nil2 _ 1,?_⟩
  unfold closeV;rw [if_pos h0]
 rw [h0] at k51
 have hT:=townOk h0
 have k85:=c31 t t.sts.length hT.sn hT
 have hE:closeV t=match clo t t.sts.length with
  | some l=>.tup [.lst 1 (l.map iv),.int .i64 0]
  | none=>.tup [.lst 1 [],.int .i64 7]:=by unfold closeV;rw [if_neg (fun e=>e h0)]
 unfold cloV at k85
 cases hc:clo t t.sts.length with
 | none =>
  rw [hc] at k85 hE
  dsimp only at k85 hE
  refine ACalls.of tab mixed Tryd.call16 Tryd.func16 rfl (fi:=⟨23,[],[1],none,[]⟩) rfl rfl (Nat.le_of_ble_eq_true rfl) (by decide) ?_
  unfold startA
  simp only[go_sem]
  repeat' (first|refine st_seq_reg rfl (by first|(simp only[go_sem,length_map];rfl)|rfl) (by first|(simp only[go_sem,length_map];rfl)|rfl) ?_|refine st_op ?_|refine st_det rfl (by simp (disch:=omega) only[go_sem,wr_i64,length_map];rfl) ?_|(refine st_pureE (by first|(simp (disch:=omega) only[go_sem,length_map];rfl)|rfl) rfl (k51) (by first|(simp only[go_sem,length_map];rfl)|rfl) (by intro n;first|(simp (disch:=omega) only[go_sem];rfl)|rfl) ?_;intro n hn)|(refine st_pureE (by first|(simp (disch:=omega) only[go_sem,length_map];rfl)|rfl) rfl (k85) (by first|(simp only[go_sem,length_map];rfl)|rfl) (by intro n;first|(simp (disch:=omega) only[go_sem];rfl)|rfl) ?_;intro n hn)|refine st_condT rfl ?_|refine st_condF rfl ?_|refine st_nil ?_|refine st_tN ?_|refine st_seq ?_|refine st_skip ?_|refine st_ret ?_|refine st_tR ?_)
  all_goals try (exfalso;omega)
  simp (disch:=omega) only[AEnd,Tryd.results16,aresK,fin,go_sem,implies_true,true_and,and_true,List.reverse_cons,List.reverse_nil]
  exact .inl ⟨_,le_nil2 _ 1,hE.symm⟩
 | some l =>
  rw [hc] at k85 hE
  dsimp only at k85 hE
  refine ACalls.of tab mixed Tryd.call16 Tryd.func16 rfl (fi:=⟨23,[],[1],none,[]⟩) rfl rfl (Nat.le_of_ble_eq_true rfl) (by decide) ?_
  unfold startA
  simp only[go_sem]
  repeat' (first|refine st_seq_reg rfl (by first|(simp only[go_sem,length_map];rfl)|rfl) (by first|(simp only[go_sem,length_map];rfl)|rfl) ?_|refine st_op ?_|refine st_det rfl (by simp (disch:=omega) only[go_sem,wr_i64,length_map];rfl) ?_|(refine st_pureE (by first|(simp (disch:=omega) only[go_sem,length_map];rfl)|rfl) rfl (k51) (by first|(simp only[go_sem,length_map];rfl)|rfl) (by intro n;first|(simp (disch:=omega) only[go_sem];rfl)|rfl) ?_;intro n hn)|(refine st_pureE (by first|(simp (disch:=omega) only[go_sem,length_map];rfl)|rfl) rfl (k85) (by first|(simp only[go_sem,length_map];rfl)|rfl) (by intro n;first|(simp (disch:=omega) only[go_sem];rfl)|rfl) ?_;intro n hn)|refine st_condF rfl ?_|refine st_nil ?_|refine st_tN ?_|refine st_seq ?_|refine st_skip ?_|refine st_ret ?_)
  all_goals try (exfalso;omega)
  simp (disch:=omega) only[AEnd,Tryd.results16,aresK,fin,go_sem,implies_true,true_and,and_true,List.reverse_cons,List.reverse_nil]
  exact .inl ⟨_,VLe.refl _,hE.symm⟩
def shF (s:Nat→Int) (i:Nat):Int:=sumF (fun i=>if s i=2 then 1 else 0) i
theorem c56 (n w:Int) (h1:0≤n∧n≤1000):Pure Tryd.prog 56 ([.int .i64 n,.int .i64 w] ++ []) (fun v=>v=.int .i64 (n+if w=2 then 1 else 0)):=by
 intro h
 refine ACalls.forget (ACalls.of tab mixed Tryd.call56 Tryd.func56 rfl (fi:=⟨10,[],[],none,[]⟩) rfl rfl (Nat.le_of_ble_eq_true rfl) (by decide) ?_)
 unfold startA
 repeat' (first|refine st_seq_reg rfl (by first|(simp only[go_sem];rfl)|rfl) (by first|(simp only[go_sem];rfl)|rfl) ?_|refine st_reg rfl (by first|(simp only[go_sem];rfl)|rfl) (by first|(simp only[go_sem];rfl)|rfl) ?_|refine st_op ?_|refine st_det rfl (by simp (disch:=omega) only[go_sem,wr_i64];rfl) ?_|(refine st_condS rfl ?_ ?_ <;> intro hg <;> (try simp only[dcT,dcF,bnT,bnF] at hg))|refine st_nil ?_|refine st_tN ?_|refine st_seq ?_|refine st_skip ?_|refine st_ret ?_)
 ·simp (disch:=omega) only[AEnd,Tryd.results56,aresK,fin,go_sem,implies_true,true_and,and_true,List.reverse_cons,List.reverse_nil]
 ·simp (disch:=omega) only[AEnd,Tryd.results56,aresK,fin,go_sem,implies_true,true_and,and_true,List.reverse_cons,List.reverse_nil]
  rw [Int.add_zero]
theorem shF_bd (s:Nat→Int):∀ i,0≤shF s i∧shF s i≤i
 | 0=>by simp [shF,sumF]
 | i+1=>by
  have ih:=shF_bd s i
  have e:shF s (i+1)=shF s i+if s i=2 then 1 else 0:=rfl
  rw [e];split <;> omega
theorem stR_map (f:Nat→Int):(stR f).map (fun x=>[x])=((List.range 12).map f).map iv:=by
 unfold stR;rw [List.map_map,List.map_map];rfl
theorem stR_elt (f:Nat→Int) (i:Nat) (h:i < 12):elt ((List.range 12).map f) i=f i:=by
 unfold elt;rw [List.getD_eq_getElem?_getD,List.getElem?_map,List.getElem?_range h];rfl
theorem c55 (f:Nat→Int):Pure Tryd.prog 55 [.lst 1 ((stR f).map (fun x=>[x])),.int .i64 0,.fn (.func 56) [] []] (fun v=>v=.int .i64 (shF f 12)):=by
 rw [stR_map]
 have hl:((List.range 12).map f).length=12:=by simp
 have hel:=stR_elt f
 generalize (List.range 12).map f=l at *
 intro h
 refine ACalls.forget (ACalls.of tab mixed Tryd.call55 Tryd.func55 rfl (fi:=⟨21,[],[],none,[]⟩) rfl rfl (Nat.le_of_ble_eq_true rfl) (by decide) ?_)
 unfold startA
 repeat' (first|refine st_seq_reg rfl (by first|(simp only[go_sem,length_map,hl];rfl)|rfl) (by first|(simp only[go_sem,length_map,hl];rfl)|rfl) ?_|refine st_op ?_|refine st_det rfl (by simp (disch:=omega) only[go_sem,wr_i64,length_map,hl];rfl) ?_|refine st_nil ?_|refine st_seq ?_|refine st_block ?_)
 refine st_loopC (α:=Nat) tab mixed [] [] (by repeat (first|exact trivial|refine ⟨rfl,?_⟩)) [] [] (by repeat (first|exact trivial|refine ⟨rfl,?_⟩)) (fun i=>[(11,.int .i64 (i:Nat)),(1,.int .i64 (shF f i))]) [(2,_),(9,_),(10,_)] (fun _=>[]) [] (fun i=>i≤12) (fun i=>12 - i) (by decide) 0 (Nat.zero_le _) (by (try simp only[go_sem]);repeat' (first|exact trivial|refine And.intro ?_ ?_|rfl|(simp (disch:=omega) only[go_sem,if_yes,if_no,if_no];rfl)|(simp (disch:=omega) only[go_sem,if_yes,if_no,if_no]))) (by (try simp only[go_sem]);repeat' (first|exact trivial|refine And.intro ?_ ?_|rfl|(simp (disch:=omega) only[go_sem,if_yes,if_no,if_no];rfl)|(simp (disch:=omega) only[go_sem,if_yes,if_no,if_no]))) (by first|(simp only[go_sem];rfl)|rfl) (by intro n;simp only[go_sem];rfl) ?_
 rintro i c i1 hc
 simp only[go_sem]
 by_cases hi:i < 12
 case pos =>
  have e:=hel i hi
  have b:=shF_bd f i
  have k:=c56 (shF f i) (f i) (by omega)
  have e1:shF f (i+1)=shF f i+if f i=2 then 1 else 0:=rfl
  rw [← e1] at k
  repeat' (first|refine st_seq_reg rfl (by first|(simp only[go_sem,length_map,hl,e];rfl)|rfl) (by first|(simp only[go_sem,length_map,hl,e];rfl)|rfl) ?_|refine st_reg rfl (by first|(simp only[go_sem,length_map,hl,e];rfl)|rfl) (by first|(simp only[go_sem,length_map,hl,e];rfl)|rfl) ?_|refine st_op ?_|refine st_det rfl (by simp (disch:=omega) only[go_sem,wr_i64,length_map,hl,e];rfl) ?_|(refine st_pureV (by first|(simp only[go_sem,length_map,hl,e];rfl)|rfl) (by first|(simp (disch:=omega) only[go_sem,length_map,hl,e];rfl)|rfl) rfl (k) (by first|(simp only[go_sem,length_map,hl,e];rfl)|rfl) (by intro n;first|(simp (disch:=omega) only[go_sem];rfl)|rfl) ?_;intro v n hv hn;subst hv)|(refine st_condS rfl ?_ ?_ <;> intro hg <;> (try simp only[dcT,dcF,bnT,bnF] at hg))|refine st_nil ?_|refine st_tN ?_|refine st_seq ?_|refine st_block ?_|refine st_skip ?_|refine st_exit ?_|refine st_ret ?_|refine st_tE ?_|refine st_bN ?_|refine st_bH ?_)
  all_goals try (exfalso;omega)
  refine ⟨i+1,by show i+1≤_;omega,by show 12 - (i+1) < 12 - i;omega,(by repeat' (first|exact trivial|refine And.intro ?_ ?_|rfl|(simp (disch:=omega) only[go_sem,if_yes,if_no,if_no];rfl)|(simp (disch:=omega) only[go_sem,if_yes,if_no,if_no]))),(by repeat' (first|exact trivial|refine And.intro ?_ ?_|rfl|(simp (disch:=omega) only[go_sem,if_yes,if_no,if_no];rfl)|(simp (disch:=omega) only[go_sem,if_yes,if_no,if_no]))),rfl,(by first|exact HOld.of _ (by omega)|exact HOld.put _ _ _ (by omega))⟩
 obtain rfl:i=12:=by omega
 repeat' (first|refine st_seq_reg rfl (by first|(simp only[go_sem,length_map];rfl)|rfl) (by first|(simp only[go_sem,length_map];rfl)|rfl) ?_|refine st_op ?_|refine st_det rfl (by simp (disch:=omega) only[go_sem,wr_i64,length_map];rfl) ?_|refine st_condF rfl ?_|refine st_nil ?_|refine st_tN ?_|refine st_seq ?_|refine st_exit ?_|refine st_ret ?_|refine st_tE ?_|refine st_bH ?_)
 all_goals try (exfalso;omega)
 simp (disch:=omega) only[AEnd,Tryd.results55,aresK,fin,go_sem,implies_true,true_and,and_true,List.reverse_cons,List.reverse_nil]
theorem c33 (f:Nat→Int):Pure Tryd.prog 33 [.agg (stR f)] (fun v=>v=.int .i64 (shF f 12)):=by
 have k:Pure Tryd.prog 55 [.lstx 1 ((stR f).map (fun x=>[x])),.int .i64 0,.fn (.func 56) [] []] (fun v=>v=.int .i64 (shF f 12)):=fun h=>by
  have H:=c55 f h
  refine ⟨H.1,fun c xs hh hv=>H.2 c xs hh (VLes.rel ?_ hv)⟩
  simp only[VLes]
  exact ⟨_,_,rfl,VLe.lstx 1 _,_,_,rfl,VLe.refl _,_,_,rfl,VLe.refl _,rfl⟩
 intro h
 refine ACalls.forget (ACalls.of tab mixed Tryd.call33 Tryd.func33 rfl (fi:=⟨5,[],[1],none,[]⟩) rfl rfl (Nat.le_of_ble_eq_true rfl) (by decide) ?_)
 unfold startA
 repeat' (first|refine st_seq_reg rfl (by first|(simp only[go_sem];rfl)|rfl) (by first|(simp only[go_sem];rfl)|rfl) ?_|refine st_op ?_|refine st_det rfl (by simp (disch:=omega) only[go_sem,wr_i64];rfl) ?_|(refine st_pureE (by first|(simp (disch:=omega) only[go_sem];rfl)|rfl) rfl (k) (by first|(simp only[go_sem];rfl)|rfl) (by intro n;first|(simp (disch:=omega) only[go_sem];rfl)|rfl) ?_;intro n hn)|refine st_nil ?_|refine st_ret ?_)
 simp (disch:=omega) only[AEnd,Tryd.results33,aresK,fin,go_sem,implies_true,true_and,and_true,List.reverse_cons,List.reverse_nil]
end Go.Proofs.YtoafigpikgigaaaDoor

namespace Go.Proofs.YtoafigpikgigaaaDoor
open Go.Av
attribute [local irreducible] thenA blockA awp awpOps awpD awp1
attribute [local go_sem_proc] Nat.reduceAdd Nat.reduceMul Nat.reduceEqDiff Nat.reduceBEq Nat.reduceLeDiff
attribute [local go_sem_proc ↓] reduceIte
attribute [local go_sem] if_yes if_no
set_option maxHeartbeats 8000000
set_option maxRecDepth 20000
def cntZ (s:List Int):Nat:=s.countP fun x=>decide (x=0)
theorem elt_set (s:List Int) (i:Nat) (v:Int) (hi:i < s.length):elt (s.set i v)=upd (elt s) i v:=by
 funext j
 unfold upd
 show (s.set i v).getD j 0=if j=i then v else s.getD j 0
 rw [List.getD_eq_getElem?_getD,List.getElem?_set,List.getD_eq_getElem?_getD]
 by_cases e:i=j
 ·subst e;rw [if_pos rfl,if_pos hi,if_pos rfl];rfl
 ·rw [if_neg e,if_neg (fun q=>e q.symm)]
theorem cntZ_set:∀ (s:List Int) (i:Nat) (v:Int),i < s.length→elt s i=0→v ≠ 0→cntZ (s.set i v)+1=cntZ s
 | [],i,v,h,_,_=>absurd h (Nat.not_lt_zero _)
 | x :: s,0,v,h,h0,hv=>by
  have e:x=0:=h0
  subst e
  simp [cntZ,hv]
 | x :: s,i+1,v,h,h0,hv=>by
  have ih:=cntZ_set s i v (by simpa using h) (by simpa [elt] using h0) hv
  unfold cntZ at *
  rw [List.set_cons_succ,List.countP_cons,List.countP_cons]
  omega
theorem sumF_more {F:Nat→Int} {n:Nat}:∀ {m:Nat},n≤m→(∀ i,n≤i→i < m→F i=0)→sumF F m=sumF F n
  | 0, h, _ => by obtain rfl : n = 0 := by omega
                  rfl
  | m+1,h,hz=>by
    by_cases e:n=m+1
    · rw [e]
    · show sumF F m+F m=_
      rw [sumF_more (m:=m) (by omega) (fun i h1 h2=>hz i h1 (by omega)),hz m (by omega) (by omega),Int.add_zero]
theorem elt_none {s:List Int} {i:Nat} (h:s.length≤i):elt s i=0:=by
 unfold elt;rw [List.getD_eq_getElem?_getD,List.getElem?_eq_none h];rfl
theorem shN_eq (s:List Int) (h:s.length≤12):shF (elt s) 12=shN s:=by
 unfold shF shN
 exact sumF_more h fun i h1 _=>by rw [if_neg (by rw [elt_none h1];decide)]
def rn (l:List Rn) (i:Nat):Rn:=l.getD i ⟨0,0,0,0⟩
@[go_sem] theorem rrow_getD {l:List Rn} {i:Nat} (h:i < l.length):(l.map Rn.row).getD i []=(rn l i).row:=by
 simp [List.getD_eq_getElem?_getD,h,rn]
def pcap (b:Nat × Nat) (t:Tw) (most:Int) (p:List Rn):List AV:=[.ptr b 0 0,.iptr [.lst 4 (p.map Rn.row)] 0,.iptr [.int .i64 most] 0,.iptr t.cells 0]
@[go_sem] theorem pknot (b:Nat × Nat) (t:Tw) (most:Int) (p:List Rn) (d:Nat):knot (.func 32) (pcap b t most p) (d+1)=.iptr [.fn (.func 32) [] [.ptr b 0 0,.iptr [.lst 4 (p.map Rn.row)] 0,.iptr [.int .i64 most] 0,.iptr t.cells 0,knot (.func 32) (pcap b t most p) d]] 0:=rfl
theorem rn_eq3 (r:Rn):([(IntKind.i64,r.kind),(.i64,r.st),(.i64,r.sq),(.i64,r.step)]=[(IntKind.i64,(3:Int)),(.i64,0),(.i64,0),(.i64,0)]) ↔ r=⟨3,0,0,0⟩:=by
 cases r;simp
theorem rn_eq2 (r:Rn):([(IntKind.i64,r.kind),(.i64,r.st),(.i64,r.sq),(.i64,r.step)]=[(IntKind.i64,(2:Int)),(.i64,0),(.i64,r.sq),(.i64,r.step)]) ↔ r.kind=2∧r.st=0:=by
 simp
theorem rn_eq1 (r:Rn):([(IntKind.i64,r.kind),(.i64,r.st),(.i64,r.sq),(.i64,r.step)]=[(IntKind.i64,(1:Int)),(.i64,r.st),(.i64,0),(.i64,0)]) ↔ r.kind=1∧r.sq=0∧r.step=0:=by
 simp
def W69 (t:Tw) (most:Int) (p:List Rn) (b:Nat × Nat) (k d:Nat) (s:List Int) (i:Nat) (h:AH):Prop :=
  ACalls Tryd.prog 32 [.agg (stR (elt s)),.ptr b 0 0,.iptr [.lst 4 (p.map Rn.row)] 0,.iptr [.int .i64 most] 0,.iptr t.cells 0,knot (.func 32) (pcap b t most p) d] h
   (fun v h'=>h.clk≤h'.clk∧h'.lp=h.lp∧(∀ b':Bid,b' ≠ b→b'.1 < h.clk→h'.at_ b'=h.at_ b')∧∃ i',i'≤p.length∧h'.at_ b=some ⟨1,[[.int .i64 ((i':Nat):Int)]]⟩∧((v=.bool true∧pvd t most k s (p.drop i)=some (p.drop i')) ∨ (v=.bool false∧pvd t most k s (p.drop i)=none)))
end Go.Proofs.YtoafigpikgigaaaDoor

namespace Go.Proofs.YtoafigpikgigaaaDoor
open Go.Av
attribute [local irreducible] thenA blockA awp awpOps awpD awp1
attribute [local go_sem_proc] Nat.reduceAdd Nat.reduceMul Nat.reduceEqDiff Nat.reduceBEq Nat.reduceLeDiff
attribute [local go_sem_proc ↓] reduceIte
attribute [local go_sem] if_yes if_no
set_option maxHeartbeats 8000000
set_option maxRecDepth 20000
theorem w69_end (t:Tw) (most:Int) (p:List Rn) (b:Nat × Nat) (k d:Nat) (s:List Int) (i:Nat) (h:AH) (hT:TwOk t) (hp:p.length≤1000000) (hsl:s.length=t.sts.length) (hb:h.at_ b=some ⟨1,[[.int .i64 (i:Nat)]]⟩) (hlt:i=p.length):W69 t most p b (k+1) d s i h:=by
 subst hlt
 have hP:pvd t most (k+1) s (p.drop p.length)=none:=by rw [List.drop_length];rfl
 unfold W69
 refine ACalls.of tab mixed Tryd.call32 Tryd.func32 rfl (fi:=⟨105,[8],[6,41,48,80],none,[(6,[0,1,0,7,15],[(0,true),(2,true),(1,false),(3,false),(4,false)]),(8,[0,1,3,7,0,16,48,127,255,511,1023,511,2559,6655,16383,32767,65535,131071,131071,131071,655359,131071,2228223,8388607,16777215,131071,33685503,131071,134348799,503447551,1040318463,2147483647,4294967295,8589934591],[(0,false),(1,true),(2,false),(3,false),(4,false),(5,true),(6,false),(7,false),(8,false),(9,false),(10,true),(11,false),(12,true),(13,false),(14,false),(15,false),(16,false),(17,true),(18,true),(19,false),(20,true),(21,false),(22,true),(25,false),(26,true),(27,false),(28,true),(29,false),(30,true),(23,false),(24,false),(31,false),(32,false),(33,false)]),(10,[0,1,3,7,0,16,48,127,255,511,1023,2047,4095,8191,16383,32767,65535,65535,65535,327679,983039,2097151,4194303,8388607,16777215,16777215,16777215,83886079,251658239,536870911,1073741823,2147483647],[(0,false),(1,true),(2,false),(3,false),(4,false),(5,true),(6,false),(7,false),(8,false),(9,false),(10,true),(11,false),(12,true),(13,false),(14,false),(15,false),(16,true),(17,true),(18,false),(19,true),(20,false),(21,false),(22,false),(23,false),(24,true),(25,true),(26,false),(27,true),(28,false),(29,false),(30,false),(31,false)])]⟩) rfl rfl (Nat.le_of_ble_eq_true rfl) (by decide) ?_
 unfold startA
 unfold Tw.cells
 repeat' (first|refine st_seq_reg rfl (by first|(simp only[go_sem,length_map,hb];rfl)|rfl) (by first|(simp only[go_sem,length_map,hb];rfl)|rfl) ?_|refine st_op ?_|refine st_det rfl (by simp (disch:=omega) only[go_sem,wr_i64,length_map,hb];rfl) ?_|refine st_condT rfl ?_|refine st_nil ?_|refine st_seq ?_|refine st_ret ?_|refine st_tR ?_)
 all_goals try (exfalso;omega)
 simp (disch:=omega) only[AEnd,Tryd.results32,aresK,fin,go_sem,implies_true,true_and,and_true,List.reverse_cons,List.reverse_nil]
 exact ⟨by omega,_,Nat.le_refl _,hb,.inr hP⟩
theorem w69_many (t:Tw) (most:Int) (p:List Rn) (b:Nat × Nat) (k d:Nat) (s:List Int) (i:Nat) (h:AH) (hT:TwOk t) (hp:p.length≤1000000) (hsl:s.length=t.sts.length) (hb:h.at_ b=some ⟨1,[[.int .i64 (i:Nat)]]⟩) (hlt:i < p.length) (h3:rn p i=⟨3,0,0,0⟩):W69 t most p b (k+1) d s i h:=by
 have hsn:=hT.sn
 have hdr:p.drop i=rn p i :: p.drop (i+1):=drop_getD _ hlt
 unfold W69
 rw [hdr]
 generalize hr:rn p i=r at *
 have k70:=c33 (elt s)
 rw [shN_eq s (by omega)] at k70
 have hP:pvd t most (k+1) s (r :: p.drop (i+1))=if most < shN s then some (p.drop (i+1)) else none:=by
  show (if r=⟨3,0,0,0⟩ then _ else _)=_;rw [if_pos h3]
 have d3:decide ([(IntKind.i64,r.kind),(.i64,r.st),(.i64,r.sq),(.i64,r.step)]=[(IntKind.i64,(3:Int)),(.i64,0),(.i64,0),(.i64,0)])=true:=decide_eq_true ((rn_eq3 r).2 h3)
 refine ACalls.of tab mixed Tryd.call32 Tryd.func32 rfl (fi:=⟨105,[8],[6,41,48,80],none,[(6,[0,1,0,7,15],[(0,true),(2,true),(1,false),(3,false),(4,false)]),(8,[0,1,3,7,0,16,48,127,255,511,1023,511,2559,6655,16383,32767,65535,131071,131071,131071,655359,131071,2228223,8388607,16777215,131071,33685503,131071,134348799,503447551,1040318463,2147483647,4294967295,8589934591],[(0,false),(1,true),(2,false),(3,false),(4,false),(5,true),(6,false),(7,false),(8,false),(9,false),(10,true),(11,false),(12,true),(13,false),(14,false),(15,false),(16,false),(17,true),(18,true),(19,false),(20,true),(21,false),(22,true),(25,false),(26,true),(27,false),(28,true),(29,false),(30,true),(23,false),(24,false),(31,false),(32,false),(33,false)]),(10,[0,1,3,7,0,16,48,127,255,511,1023,2047,4095,8191,16383,32767,65535,65535,65535,327679,983039,2097151,4194303,8388607,16777215,16777215,16777215,83886079,251658239,536870911,1073741823,2147483647],[(0,false),(1,true),(2,false),(3,false),(4,false),(5,true),(6,false),(7,false),(8,false),(9,false),(10,true),(11,false),(12,true),(13,false),(14,false),(15,false),(16,true),(17,true),(18,false),(19,true),(20,false),(21,false),(22,false),(23,false),(24,true),(25,true),(26,false),(27,true),(28,false),(29,false),(30,false),(31,false)])]⟩) rfl rfl (Nat.le_of_ble_eq_true rfl) (by decide) ?_
 unfold startA
 unfold Tw.cells
 repeat' (first|refine st_seq_reg rfl (by first|(simp only[go_sem,length_map,hb,hr,d3];rfl)|rfl) (by first|(simp only[go_sem,length_map,hb,hr,d3];rfl)|rfl) ?_|refine st_seq_draw rfl (by first|(simp only[go_sem,length_map,hb,hr,d3];rfl)|rfl) (by first|(simp only[go_sem,length_map,hb,hr,d3];rfl)|rfl) ?_|refine st_op ?_|refine st_det rfl (by simp (disch:=omega) only[go_sem,wr_i64,length_map,hb,hr,d3];rfl) ?_|refine st_dop rfl ?_|refine st_loc rfl (by simp (disch:=omega) only[go_sem,wr_i64,length_map,hb,hr,d3];rfl) ?_|refine st_store (by simp (disch:=omega) only[go_sem,wr_i64,length_map,hb,hr,d3];rfl) ?_|(refine st_pureE (by first|(simp (disch:=omega) only[go_sem,length_map,hb,hr,d3];rfl)|rfl) rfl (k70) (by first|(simp only[go_sem,length_map,hb,hr,d3];rfl)|rfl) (by intro n;first|(simp (disch:=omega) only[go_sem];rfl)|rfl) ?_;intro n hn)|refine st_condT rfl ?_|(refine st_condS rfl ?_ ?_ <;> intro hg <;> (try simp only[dcT,dcF,bnT,bnF] at hg))|refine st_nil ?_|refine st_dnil ?_|refine st_tN ?_|refine st_seq ?_|refine st_block ?_|refine st_skip ?_|refine st_ret ?_|refine st_tR ?_|refine st_bR ?_)
 all_goals try (exfalso;omega)
 simp (disch:=omega) only[AEnd,Tryd.results32,aresK,fin,go_sem,implies_true,true_and,and_true,List.reverse_cons,List.reverse_nil]
 refine ⟨by omega,fun b' q _=>if_neg q,i+1,hlt,rfl,?_⟩
 rw [hP]
 by_cases hm:most < shN s
 ·rw [if_pos hm];exact .inl ⟨by rw [decide_eq_true hm],rfl⟩
 ·rw [if_neg hm];exact .inr ⟨by rw [decide_eq_false hm],rfl⟩
theorem w69_none (t:Tw) (most:Int) (p:List Rn) (b:Nat × Nat) (k d:Nat) (s:List Int) (i:Nat) (h:AH) (hT:TwOk t) (hp:p.length≤1000000) (hsl:s.length=t.sts.length) (hb:h.at_ b=some ⟨1,[[.int .i64 (i:Nat)]]⟩) (hlt:i < p.length) (h3:¬ rn p i=⟨3,0,0,0⟩) (h2:¬ ((rn p i).kind=2∧(rn p i).st=0)) (h1:¬ ((rn p i).kind=1∧(rn p i).sq=0∧(rn p i).step=0)):W69 t most p b (k+1) d s i h:=by
 have hsn:=hT.sn
 have hdr:p.drop i=rn p i :: p.drop (i+1):=drop_getD _ hlt
 unfold W69
 rw [hdr]
 generalize hr:rn p i=r at *
 have hP:pvd t most (k+1) s (r :: p.drop (i+1))=none:=by
  show (if r=⟨3,0,0,0⟩ then _ else if _ then _ else if _ then _ else _)=_;rw [if_neg h3,if_neg h2,if_neg h1]
 have d3:decide ([(IntKind.i64,r.kind),(.i64,r.st),(.i64,r.sq),(.i64,r.step)]=[(IntKind.i64,(3:Int)),(.i64,0),(.i64,0),(.i64,0)])=false:=decide_eq_false (fun e=>h3 ((rn_eq3 r).1 e))
 have d2:decide ([(IntKind.i64,r.kind),(.i64,r.st),(.i64,r.sq),(.i64,r.step)]=[(IntKind.i64,(2:Int)),(.i64,0),(.i64,r.sq),(.i64,r.step)])=false:=decide_eq_false (fun e=>h2 ((rn_eq2 r).1 e))
 have d1:decide ([(IntKind.i64,r.kind),(.i64,r.st),(.i64,r.sq),(.i64,r.step)]=[(IntKind.i64,(1:Int)),(.i64,r.st),(.i64,0),(.i64,0)])=false:=decide_eq_false (fun e=>h1 ((rn_eq1 r).1 e))
 refine ACalls.of tab mixed Tryd.call32 Tryd.func32 rfl (fi:=⟨105,[8],[6,41,48,80],none,[(6,[0,1,0,7,15],[(0,true),(2,true),(1,false),(3,false),(4,false)]),(8,[0,1,3,7,0,16,48,127,255,511,1023,511,2559,6655,16383,32767,65535,131071,131071,131071,655359,131071,2228223,8388607,16777215,131071,33685503,131071,134348799,503447551,1040318463,2147483647,4294967295,8589934591],[(0,false),(1,true),(2,false),(3,false),(4,false),(5,true),(6,false),(7,false),(8,false),(9,false),(10,true),(11,false),(12,true),(13,false),(14,false),(15,false),(16,false),(17,true),(18,true),(19,false),(20,true),(21,false),(22,true),(25,false),(26,true),(27,false),(28,true),(29,false),(30,true),(23,false),(24,false),(31,false),(32,false),(33,false)]),(10,[0,1,3,7,0,16,48,127,255,511,1023,2047,4095,8191,16383,32767,65535,65535,65535,327679,983039,2097151,4194303,8388607,16777215,16777215,16777215,83886079,251658239,536870911,1073741823,2147483647],[(0,false),(1,true),(2,false),(3,false),(4,false),(5,true),(6,false),(7,false),(8,false),(9,false),(10,true),(11,false),(12,true),(13,false),(14,false),(15,false),(16,true),(17,true),(18,false),(19,true),(20,false),(21,false),(22,false),(23,false),(24,true),(25,true),(26,false),(27,true),(28,false),(29,false),(30,false),(31,false)])]⟩) rfl rfl (Nat.le_of_ble_eq_true rfl) (by decide) ?_
 unfold startA
 unfold Tw.cells
 repeat' (first|refine st_seq_reg rfl (by first|(simp only[go_sem,length_map,hb,hr,d3,d2,d1];rfl)|rfl) (by first|(simp only[go_sem,length_map,hb,hr,d3,d2,d1];rfl)|rfl) ?_|refine st_op ?_|refine st_det rfl (by simp (disch:=omega) only[go_sem,wr_i64,length_map,hb,hr,d3,d2,d1];rfl) ?_|refine st_loc rfl (by simp (disch:=omega) only[go_sem,wr_i64,length_map,hb,hr,d3,d2,d1];rfl) ?_|refine st_store (by simp (disch:=omega) only[go_sem,wr_i64,length_map,hb,hr,d3,d2,d1];rfl) ?_|refine st_condF rfl ?_|(refine st_condS rfl ?_ ?_ <;> intro hg <;> (try simp only[dcT,dcF,bnT,bnF] at hg))|refine st_nil ?_|refine st_tN ?_|refine st_seq ?_|refine st_block ?_|refine st_skip ?_|refine st_ret ?_|refine st_tR ?_|refine st_bN ?_)
 all_goals try (exfalso;omega)
 simp (disch:=omega) only[AEnd,Tryd.results32,aresK,fin,go_sem,implies_true,true_and,and_true,List.reverse_cons,List.reverse_nil]
 exact ⟨by omega,fun b' q _=>if_neg q,i+1,hlt,rfl,.inr hP⟩
end Go.Proofs.YtoafigpikgigaaaDoor
