/- Contracts of functions that the claim reaches: what each call gives, told in our own logic. Conditions: those of each theorem. -/
import Derived.Test.YtoafigpikgigaaaGreatDoorQ15
import Derived.Test.YtoafigpikgigaaaGreatDoorBaseD
open List (length_map)
set_option linter.all false
set_option linter.unusedSimpArgs false
set_option linter.unusedVariables false
namespace Go.Proofs.YtoafigpikgigaaaGreatDoor
open Go.Av
attribute [local irreducible] thenA blockA awp awpOps awpD awp1
attribute [local go_sem_proc] Nat.reduceAdd Nat.reduceMul Nat.reduceEqDiff Nat.reduceBEq Nat.reduceLeDiff
attribute [local go_sem_proc ↓] reduceIte
attribute [local go_sem] if_yes if_no
set_option maxHeartbeats 8000000
set_option maxRecDepth 20000
def crV (t:Tw) (f:Nat→Int):AV:=match crL t f with
 | x :: _=>.tup [.agg x.row,.bool true]
 | []=>.tup [.agg [.int .i64 0,.int .i64 0,.int .i64 0],.bool false]
theorem c69 (t:Tw) (f:Nat→Int) (hT:TwOk t):Pure Tryz.prog 69 [.agg (stR f),t.av] (fun v=>v=crV t f):=by
 have k90:=c85 t f
 intro h
 refine ACalls.forget (ACalls.of tab mixed Tryz.call69 Tryz.func69 rfl (fi:=⟨13,[6],[2,3],none,[]⟩) rfl rfl (Nat.le_of_ble_eq_true rfl) (by decide) ?_)
 unfold startA
 simp only[go_sem]
 repeat' (first|refine st_seq_reg rfl (by first|(simp only[go_sem];rfl)|rfl) (by first|(simp only[go_sem];rfl)|rfl) ?_|refine st_op ?_|refine st_det rfl (by simp (disch:=omega) only[go_sem,wr_i64];rfl) ?_|refine st_heap rfl (by simp (disch:=omega) only[go_sem,wr_i64];rfl) ?_|(refine st_pureE (by first|(simp (disch:=omega) only[go_sem];rfl)|rfl) rfl (k90) (by first|(simp only[go_sem];rfl)|rfl) (by intro n;first|(simp (disch:=omega) only[go_sem];rfl)|rfl) ?_;intro n hn)|refine st_nil ?_|refine st_seq ?_|refine st_block ?_)
 refine st_rangeFunc rfl (by simp only[go_sem];rfl) (fun l D R hR hlp=>?_)
 simp only[go_sem] at hlp
 have hn4:∀ b':Nat × Nat,b'.1 < h.clk→¬ b'=(h.clk,4):=fun b' hb'=>ne_fst hb' (Nat.le_refl _)
 have hn5:∀ b':Nat × Nat,b'.1 < h.clk→¬ b'=(h.clk,5):=fun b' hb'=>ne_fst hb' (Nat.le_refl _)
 have h45:¬ ((h.clk,4):Nat × Nat)=(h.clk,5):=ne_snd (by decide)
 have h54:¬ ((h.clk,5):Nat × Nat)=(h.clk,4):=ne_snd (by decide)
 let A:AH→Prop:=fun g=>h.clk+1≤g.clk∧(∀ b':Bid,b'.1 < h.clk→g.at_ b'=h.at_ b')∧(∀ l',l' ≠ l→g.lp l'=h.lp l')
 let I:List Cr→AH→Prop:=fun p g=>p=[]∧g.lp l=some R∧A g∧g.at_ (h.clk,4)=some ⟨3,[[.int .i64 0,.int .i64 0,.int .i64 0]]⟩∧g.at_ (h.clk,5)=some ⟨1,[[.bool false]]⟩
 let E:List Cr→Cr→AH→Prop:=fun p x g=>p=[]∧g.lp l=some (R.stop .ret)∧A g∧g.at_ (h.clk,4)=some ⟨3,[x.row]⟩∧g.at_ (h.clk,5)=some ⟨1,[[.bool true]]⟩
 have hlp2:∀ h':AH,A h'→(h'.lpSet l none).lp=h.lp:=by
  intro h' ⟨_,_,h3⟩
  funext l'
  by_cases e:l'=l
  ·rw [e,lpSet_same,hlp]
  ·rw [lpSet_ne _ _ e];exact h3 l' e
 refine (c99 t f l hT I E ?_ ?_ ?_ _ ?_).mono ?_
 ·rintro p g' m ⟨h1,h2,⟨h3,h4,h5⟩,h6,h7⟩ hm
  exact ⟨h1,h2,⟨by show h.clk+1≤m;omega,h4,h5⟩,h6,h7⟩
 ·rintro p x g' m ⟨h1,h2,⟨h3,h4,h5⟩,h6,h7⟩ hm
  exact ⟨h1,h2,⟨by show h.clk+1≤m;omega,h4,h5⟩,h6,h7⟩
 ·rintro p x g' _ ⟨h1,h2,⟨h3,h4,h5⟩,h6,h7⟩
  refine AYields.canonD tab mixed [6] [] [] hR h2 rfl (by intro p hp;simp at hp;rcases hp with rfl;decide) [(10,.agg x.row),(4,.ptr (h.clk,4) 0 0),(5,.ptr (h.clk,5) 0 0)] ⟨rfl,rfl,rfl,trivial⟩ (by decide) (by decide) ?_
  simp only[go_sem]
  repeat' (first|refine st_reg rfl (by first|(simp only[go_sem];rfl)|rfl) (by first|(simp only[go_sem];rfl)|rfl) ?_|refine st_op ?_|refine st_loc rfl (by simp (disch:=omega) only[go_sem,wr_i64];rfl) ?_|refine st_store (by simp (disch:=omega) only[go_sem,wr_i64];rfl) ?_|refine st_nil ?_|refine st_tN ?_)
  refine ⟨by simp only[go_sem];exact h2,?_⟩
  dsimp only
  repeat' (first|refine st_seq_reg rfl (by first|(simp only[go_sem,h6,h7,h45,h54];rfl)|rfl) (by first|(simp only[go_sem,h6,h7,h45,h54];rfl)|rfl) ?_|refine st_op ?_|refine st_det rfl (by simp (disch:=omega) only[go_sem,wr_i64,h6,h7,h45,h54];rfl) ?_|refine st_store (by simp (disch:=omega) only[go_sem,wr_i64,h6,h7,h45,h54];rfl) ?_|refine st_nil ?_|refine st_block ?_|refine st_ret ?_|refine st_bR ?_)
  refine ⟨by simp only[go_sem],.inr ⟨rfl,h1,lpSet_same _ _ _,⟨by simp only[go_sem];omega,fun b' hb'=>?_,fun l' hl'=>?_⟩,?_,?_⟩⟩
  ·simp only[go_sem,if_neg (hn4 b' hb'),if_neg (hn5 b' hb')];exact h4 b' hb'
  ·rw [lpSet_ne _ _ hl'];simp only[go_sem];rw [lpSet_ne _ _ hl'];exact h5 l' hl'
  ·simp only[go_sem,h45,h54,↓reduceIte] <;> rfl
  ·simp only[go_sem,h45,h54,↓reduceIte] <;> rfl
 ·exact ⟨rfl,lpSet_same _ _ _,⟨by simp only[go_sem];omega,fun b' hb'=>by simp only[go_sem,if_neg (hn4 b' hb'),if_neg (hn5 b' hb')],fun l' hl'=>by rw [lpSet_ne _ _ hl'];rfl⟩,by simp only[go_sem,h45,h54,↓reduceIte],by simp only[go_sem,h45,h54,↓reduceIte]⟩
 ·rintro v h' (⟨h1,h2,h3,h4,h5⟩|⟨p,x,r,e,h1,h2,h3,h4,h5⟩)
  ·refine .inl ⟨h2,st_bN (st_tN ?_)⟩
   have hl2:=hlp2 h' h3
   repeat' (first|refine st_seq_reg rfl (by first|(simp only[go_sem,h4,h5,h45,h54];rfl)|rfl) (by first|(simp only[go_sem,h4,h5,h45,h54];rfl)|rfl) ?_|refine st_op ?_|refine st_det rfl (by simp (disch:=omega) only[go_sem,wr_i64,h4,h5,h45,h54];rfl) ?_|refine st_store (by simp (disch:=omega) only[go_sem,wr_i64,h4,h5,h45,h54];rfl) ?_|refine st_nil ?_|refine st_ret ?_)
   simp (disch:=omega) only[AEnd,Tryz.results69,aresK,fin,go_sem,implies_true,true_and,and_true,List.reverse_cons,List.reverse_nil,h45,h54]
   refine ⟨fun b' hb'=>?_,hl2,?_⟩
   ·rw [if_neg (hn5 b' hb'),if_neg (hn4 b' hb')];exact h3.2.1 b' hb'
   ·unfold crV;rw [h1]
  ·refine .inr ⟨.ret,h2,ASem.ret (st_bR (st_tR ?_))⟩
   have hl2:=hlp2 h' h3
   subst h1
   repeat' (first|refine st_seq_reg rfl (by first|(simp only[go_sem];rfl)|rfl) (by first|(simp only[go_sem];rfl)|rfl) ?_)
   simp (disch:=omega) only[AEnd,Tryz.results69,aresK,fin,go_sem,implies_true,true_and,and_true,List.reverse_cons,List.reverse_nil,h4,h5,hl2]
   refine ⟨h3.2.1,?_⟩
   unfold crV;rw [e];first|done|rfl
end Go.Proofs.YtoafigpikgigaaaGreatDoor

namespace Go.Proofs.YtoafigpikgigaaaGreatDoor
open Go.Av
attribute [local irreducible] thenA blockA awp awpOps awpD awp1
attribute [local go_sem_proc] Nat.reduceAdd Nat.reduceMul Nat.reduceEqDiff Nat.reduceBEq Nat.reduceLeDiff
attribute [local go_sem_proc ↓] reduceIte
attribute [local go_sem] if_yes if_no
set_option maxHeartbeats 8000000
set_option maxRecDepth 20000
theorem cells_one {v:AV} (h:v.cell=true):v.cells=[v]:=by
 cases v <;> first|rfl|(cases h;done)
end Go.Proofs.YtoafigpikgigaaaGreatDoor

namespace Go.Proofs.YtoafigpikgigaaaGreatDoor
open Go.Av
attribute [local irreducible] thenA blockA awp awpOps awpD awp1
attribute [local go_sem_proc] Nat.reduceAdd Nat.reduceMul Nat.reduceEqDiff Nat.reduceBEq Nat.reduceLeDiff
attribute [local go_sem_proc ↓] reduceIte
attribute [local go_sem] if_yes if_no
set_option maxHeartbeats 8000000
set_option maxRecDepth 20000
def wcap (lp n m:Nat):List AV:=[.iptr [.int .i64 (m:Nat)] 0,.iptr [.fn (.yield lp) [] []] 0,.iptr [.int .i64 (n:Nat)] 0]
@[go_sem] theorem knot_s (lp n m d:Nat):knot (.func 84) (wcap lp n m) (d+1)=.iptr [.fn (.func 84) [] [.iptr [.int .i64 (m:Nat)] 0,.iptr [.fn (.yield lp) [] []] 0,.iptr [.int .i64 (n:Nat)] 0,knot (.func 84) (wcap lp n m) d]] 0:=rfl
theorem asrc_tick (h:AH) (k z:Nat) (v:AV):asrc (h.tick k) z v=asrc h z v:=by cases v <;> rfl
theorem addc2 (a b:Nat):((a+(b+1):Nat):Int)=((a+b:Nat):Int)+1:=by omega
theorem c68 (a b:Int):Pure Tryz.prog 68 [.int .i64 a,.int .i64 b] (fun v=>v=.fn (.func 83) [] [.iptr [.int .i64 b] 0,.iptr [.int .i64 a] 0]):=by
 intro h
 refine ACalls.forget (ACalls.of tab mixed Tryz.call68 Tryz.func68 rfl (fi:=⟨6,[],[2,3],none,[]⟩) rfl rfl (Nat.le_of_ble_eq_true rfl) (by decide) ?_)
 unfold startA
 repeat' (first|refine st_seq_reg rfl (by first|(simp only[go_sem];rfl)|rfl) (by first|(simp only[go_sem];rfl)|rfl) ?_|refine st_op ?_|refine st_det rfl (by simp (disch:=omega) only[go_sem,wr_i64];rfl) ?_|refine st_nil ?_|refine st_ret ?_)
 simp (disch:=omega) only[AEnd,Tryz.results68,aresK,fin,go_sem,implies_true,true_and,and_true,List.reverse_cons,List.reverse_nil]
theorem fnd_none {α:Type} {p:α→Bool} {a b:List α} (h:a.find? p=none) (k:b.find? p=none):(a ++ b).find? p=none:=by rw [List.find?_append,h,k];rfl
theorem fnd_some {α:Type} {p:α→Bool} {a b:List α} {x:α} (h:a.find? p=none) (k:b.find? p=some x):(a ++ b).find? p=some x:=by rw [List.find?_append,h,k];rfl
theorem catK_pre {g:Nat→List (List Int)} {a:Nat} {f:List Int→List Int} {p:List Int→Bool} {x:List Int} {k:Nat} (h:((catK g a k).map f).find? p=some x):∀ {j:Nat},k≤j→((catK g a j).map f).find? p=some x
 | 0,hj=>by
  obtain rfl:k=0:=by omega
  exact h
 | j+1,hj=>by
  by_cases e:k=j+1
  ·rw [← e];exact h
  ·show ((catK g a j ++ g (a+j)).map f).find? p=some x
   rw [List.map_append,List.find?_append,catK_pre h (by omega)];rfl
theorem chs_next (n r next j:Nat) (l:List Int):(catK (fun i=>(chs n r (i+1)).map (((i:Nat):Int) :: ·)) next (j+1)).map (l ++ ·)=(catK (fun i=>(chs n r (i+1)).map (((i:Nat):Int) :: ·)) next j).map (l ++ ·) ++ (chs n r (next+j+1)).map ((l ++ [((next+j:Nat):Int)]) ++ ·):=by
 show (catK _ next j ++ (chs n r (next+j+1)).map _).map _=_
 rw [List.map_append,List.map_map]
 congr 1
 apply List.map_congr_left
 intro x _
 simp
theorem c84 (lp n m c0:Nat) (hn:n≤12) (hm:m≤12) (I:AH→Prop) (D:List Int→AH→Prop) (bad:List Int→Bool) (hI:∀ g k,I g→g.clk≤k→I (g.tick k)) (hP:∀ g b k,I g→c0≤b.1→I (g.put b k)) (hD:∀ x g k,D x g→g.clk≤k→D x (g.tick k))
  (hy:∀ xs g,(∀ x:Int,x ∈ xs→0≤x∧x < n)→xs.length≤12→c0≤g.clk→I g→AYields Tryz.prog lp [.lst 1 (xs.map iv)] g (fun v h'=>g.clk≤h'.clk∧(∀ b:Bid,c0≤b.1→b.1 < g.clk→h'.at_ b=g.at_ b)∧((bad xs=false∧v=.bool true∧I h') ∨ (bad xs=true∧v=.bool false∧D xs h')))) :
  ∀ (r d:Nat),r≤d→∀ (l:List Int) (v:AV) (next:Nat) (nx:Int) (h:AH),nx=(next:Nat)→next≤n→l.length+r=m→(∀ x:Int,x ∈ l→0≤x∧x < n)→c0≤h.clk→SlW c0 h v (l.map iv)→I h →
  ACalls Tryz.prog 84 [v,.int .i64 nx,.iptr [.int .i64 (m:Nat)] 0,.iptr [.fn (.yield lp) [] []] 0,.iptr [.int .i64 (n:Nat)] 0,knot (.func 84) (wcap lp n m) d] h
   (fun x h'=>KeepW c0 h v (l.map iv) h'∧((((chs n r next).map (l ++ ·)).find? bad=none∧x=.bool true∧I h') ∨ ∃ y,((chs n r next).map (l ++ ·)).find? bad=some y∧x=.bool false∧D y h')):=by
 intro r
 induction r with
 | zero =>
  rintro d hd l v next nx h rfl hnb hlm hlx hc0 hS hi
  obtain rfl:l.length=m:=by omega
  have hC:(chs n 0 next).map (l ++ ·)=[l]:=by show [l ++ []]=[l];rw [List.append_nil]
  rw [hC]
  have hK:∀ h':AH,h.clk≤h'.clk→(∀ b:Bid,c0≤b.1→b.1 < h.clk→h'.at_ b=h.at_ b)→KeepW c0 h v (l.map iv) h':=fun h' q1 q2=>KeepW.of hS q2 q1
  have hfb:bad l=false→[l].find? bad=none:=fun q=>by simp [q]
  have hfs:bad l=true→[l].find? bad=some l:=fun q=>by simp [q]
  have hnc:=hS.noL
  have hlen:alen (tt 22) v=some ((l.map iv).length:Int):=hS.len rfl
  rw [Lm] at hlen
  have hsrc:=hS.src
  refine ACalls.of tab mixed Tryz.call84 Tryz.func84 rfl (fi:=⟨33,[],[27],none,[(2,[0,0,2,7,15],[(0,true),(1,false),(2,false),(3,false),(4,false)]),(6,[0,0,0,4,14,0,32,127,255],[(0,true),(1,false),(2,false),(3,false),(5,false),(6,false),(4,false),(7,false),(8,false)])]⟩) rfl rfl (Nat.le_of_ble_eq_true rfl) (by decide) ?_
  unfold startA
  repeat' (first|refine st_seq_reg rfl (by first|(simp only[go_sem,hlen,hnc];rfl)|rfl) (by first|(simp only[go_sem,hlen,hnc];rfl)|rfl) ?_|refine st_seq_draw rfl (by first|(simp only[go_sem,hlen,hnc];rfl)|rfl) (by first|(simp only[go_sem,hlen,hnc];rfl)|rfl) ?_|refine st_op ?_|refine st_det rfl (by simp (disch:=omega) only[go_sem,wr_i64,hlen,hnc];rfl) ?_|refine st_dop rfl ?_|refine st_condT rfl ?_|refine st_nil ?_|refine st_seq ?_)
  all_goals try (exfalso;omega)
  refine st_cpy (by intro h id x y;simp only[go_sem];rfl) (by simp only[go_sem] <;> rfl) (by simp only[go_sem];rw [asrc_tick];exact hsrc) (by simp only[Lm,big];omega) ?_
  intro v' H' hC
  have hnv:=hC.noL
  have hck:=hC.clk
  simp only[go_sem] at hck
  have hb2:∀ H2:AH,H2=h.tick (h.clk+1+1+1) ∨ H2=(h.tick (h.clk+1+1+1)).put (h.clk+1+1,16) none→h.clk+3=H2.clk∧(∀ b:Bid,b.1 < h.clk→H2.at_ b=h.at_ b)∧I H2:=by
   rintro H2 (rfl|rfl)
   ·exact ⟨rfl,fun _ _=>rfl,hI _ _ hi (by omega)⟩
   ·exact ⟨rfl,fun b q=>put_ne _ _ (fun e=>by rw [e] at q;dsimp only at q;omega),hP _ _ _ (hI _ _ hi (by omega)) (by show c0≤h.clk+1+1;omega)⟩
  repeat' (first|refine st_det rfl (by simp (disch:=omega) only[go_sem,wr_i64,hnv];rfl) ?_|refine st_dop rfl ?_|(refine st_yield rfl (by first|(simp (disch:=omega) only[go_sem];rfl)|(simp (disch:=omega) only[go_sem])) (by simp only[List.all_cons,List.all_nil,hnv] <;> rfl) (Q:=fun x g2=>h.clk≤g2.clk∧(∀ b:Bid,c0≤b.1→b.1 < h.clk→g2.at_ b=h.at_ b)∧((bad l=false∧x=.bool true∧I g2) ∨ (bad l=true∧x=.bool false∧D l g2))) (AYields.cpy hC fun H2 h2=>(hy l H2 hlx (by omega) (by have:=(hb2 H2 h2).1;omega) (hb2 H2 h2).2.2).mono fun x g2 q=>⟨by have:=(hb2 H2 h2).1;omega,fun b q1 q2=>(q.2.1 b q1 (by have:=(hb2 H2 h2).1;omega)).trans ((hb2 H2 h2).2.1 b q2),q.2.2⟩) ?_;rintro x g2 ⟨hg1,hg2,(⟨hb,rfl,hi2⟩|⟨hb,rfl,hd2⟩)⟩)|refine st_dnil ?_|refine st_ret ?_|refine st_tR ?_)
  ·simp (disch:=omega) only[AEnd,Tryz.results84,aresK,fin,go_sem,implies_true,true_and,and_true,List.reverse_cons,List.reverse_nil]
   exact ⟨hK _ hg1 hg2,.inl ⟨hfb hb,hi2⟩⟩
  ·simp (disch:=omega) only[AEnd,Tryz.results84,aresK,fin,go_sem,implies_true,true_and,and_true,List.reverse_cons,List.reverse_nil]
   exact ⟨hK _ hg1 hg2,.inr ⟨l,hfs hb,hd2⟩⟩
 | succ r ih =>
  rintro d hd l v next nx h rfl hnb hlm hlx hc0 hS hi
  obtain ⟨d,rfl⟩:∃ d',d=d'+1:=⟨d - 1,by omega⟩
  have hlen:alen (tt 22) v=some ((l.map iv).length:Int):=hS.len rfl
  rw [Lm] at hlen
  have hnc:=hS.noL
  have hG:chs n (r+1) next=catK (fun i=>(chs n r (i+1)).map (((i:Nat):Int) :: ·)) next (n - next):=rfl
  rw [hG]
  have hnx:=chs_next n r next
  have hpre:=fun {x:List Int} {k:Nat} (q:((catK (fun i=>(chs n r (i+1)).map (((i:Nat):Int) :: ·)) next k).map (l ++ ·)).find? bad=some x) {j:Nat} (q2:k≤j)=>catK_pre q q2
  have hz:((catK (fun i=>(chs n r (i+1)).map (((i:Nat):Int) :: ·)) next 0).map (l ++ ·)).find? bad=none:=rfl
  generalize (fun j=>(catK (fun i=>(chs n r (i+1)).map (((i:Nat):Int) :: ·)) next j).map (l ++ ·))=C at *
  refine ACalls.of tab mixed Tryz.call84 Tryz.func84 rfl (fi:=⟨33,[],[27],none,[(2,[0,0,2,7,15],[(0,true),(1,false),(2,false),(3,false),(4,false)]),(6,[0,0,0,4,14,0,32,127,255],[(0,true),(1,false),(2,false),(3,false),(5,false),(6,false),(4,false),(7,false),(8,false)])]⟩) rfl rfl (Nat.le_of_ble_eq_true rfl) (by decide) ?_
  unfold startA
  simp only[go_sem]
  repeat' (first|refine st_seq_reg rfl (by first|(simp only[go_sem,hlen,hnc];rfl)|rfl) (by first|(simp only[go_sem,hlen,hnc];rfl)|rfl) ?_|refine st_seq_draw rfl (by first|(simp only[go_sem,hlen,hnc];rfl)|rfl) (by first|(simp only[go_sem,hlen,hnc];rfl)|rfl) ?_|refine st_op ?_|refine st_det rfl (by simp (disch:=omega) only[go_sem,wr_i64,hlen,hnc];rfl) ?_|refine st_dop rfl ?_|(refine st_condS rfl ?_ ?_ <;> intro hg <;> (try simp only[dcT,dcF,bnT,bnF] at hg))|refine st_nil ?_|refine st_tN ?_|refine st_seq ?_|refine st_block ?_|refine st_skip ?_)
  all_goals try (exfalso;omega)
  refine st_loopH (α:=Nat × AH) tab mixed [] [] (by repeat (first|exact trivial|refine ⟨rfl,?_⟩)) [] [] (by repeat (first|exact trivial|refine ⟨rfl,?_⟩)) (fun a=>[(9,.int .i64 ((next+a.1:Nat):Int))]) [(0,_),(2,_),(3,_),(4,_),(5,_)] (fun _=>[]) [] (fun a=>a.2) (fun a=>next+a.1≤n∧I a.2∧KeepW c0 h v (l.map iv) a.2∧((catK (fun i=>(chs n r (i+1)).map (((i:Nat):Int) :: ·)) next a.1).map (l ++ ·)).find? bad=none) (fun a=>n - (next+a.1)) (by decide) (0,h) ⟨hnb,hi,KeepW.refl hS,hz⟩ (by (try simp only[go_sem]);repeat' (first|exact trivial|refine And.intro ?_ ?_|rfl|(simp (disch:=omega) only[go_sem,if_yes,if_no,if_no];rfl)|(simp (disch:=omega) only[go_sem,if_yes,if_no,if_no]))) (by (try simp only[go_sem]);repeat' (first|exact trivial|refine And.intro ?_ ?_|rfl|(simp (disch:=omega) only[go_sem,if_yes,if_no,if_no];rfl)|(simp (disch:=omega) only[go_sem,if_yes,if_no,if_no]))) (HOld.tick (by simp only[go_sem];omega)) ?_
  rintro ⟨j,g⟩ c ⟨i1,i2,i3,i4⟩ hc
  dsimp only at i1 i2 i3 i4 hc
  simp only[go_sem]
  have hgc:=i3.clk
  by_cases hj:next+j < n
  case neg =>
   obtain rfl:j=n - next:=by omega
   repeat' (first|refine st_seq_reg rfl (by first|(simp only[go_sem];rfl)|rfl) (by first|(simp only[go_sem];rfl)|rfl) ?_|refine st_seq_draw rfl (by first|(simp only[go_sem];rfl)|rfl) (by first|(simp only[go_sem];rfl)|rfl) ?_|refine st_op ?_|refine st_det rfl (by simp (disch:=omega) only[go_sem,wr_i64];rfl) ?_|refine st_dop rfl ?_|(refine st_condS rfl ?_ ?_ <;> intro hg <;> (try simp only[dcT,dcF,bnT,bnF] at hg))|refine st_nil ?_|refine st_tN ?_|refine st_seq ?_|refine st_block ?_|refine st_skip ?_|refine st_exit ?_|refine st_ret ?_|refine st_tE ?_|refine st_bH ?_)
   all_goals try (exfalso;omega)
   simp (disch:=omega) only[AEnd,Tryz.results84,aresK,fin,go_sem,implies_true,true_and,and_true,List.reverse_cons,List.reverse_nil]
   exact ⟨i3.trans (KeepW.of (hS.keepW i3) (fun _ _ _=>rfl) (by simp only[go_sem];omega)),.inl ⟨i4,hI _ _ i2 (by omega)⟩⟩
  have hSg:=hS.keepW i3
  have hSc:∀ N,g.clk≤N→SlW c0 (g.tick N) v (l.map iv):=fun N hN=>hSg.same (fun _ _ _=>rfl) hN
  repeat' (first|refine st_seq_reg rfl (by first|(simp only[go_sem,hnc];rfl)|rfl) (by first|(simp only[go_sem,hnc];rfl)|rfl) ?_|refine st_seq_draw rfl (by first|(simp only[go_sem,hnc];rfl)|rfl) (by first|(simp only[go_sem,hnc];rfl)|rfl) ?_|refine st_op ?_|refine st_det rfl (by simp (disch:=omega) only[go_sem,wr_i64,hnc];rfl) ?_|refine st_dop rfl ?_|(refine st_condS rfl ?_ ?_ <;> intro hg <;> (try simp only[dcT,dcF,bnT,bnF] at hg))|refine st_nil ?_|refine st_tN ?_|refine st_seq ?_|refine st_block ?_|refine st_skip ?_|refine st_exit ?_|refine st_ret ?_|refine st_tE ?_|refine st_bH ?_)
  all_goals try (exfalso;omega)
  refine st_appW (m:=8) (c0:=c0) (l:=l.map iv) (r:=[.int .i64 ((next+j:Nat):Int)]) (by intro h id x y;simp only[go_sem] <;> rfl) rfl rfl rfl (by first|(simp only[go_sem];done)|(simp only[go_sem];rfl)) (by first|(simp only[go_sem];done)|(simp only[go_sem];rfl)) rfl (hSc _ (by omega)) (by simp only[Lm,big];omega) (by omega) (by simp only[go_sem];omega) ?_
  intro v' G hA
  have hnv:=hA.sl.noL
  have hk2:=fun h2 (q:KeepW c0 (G.tick (g.tick (c+1+1)).clk) v' (l.map iv ++ [[.int .i64 ((next+j:Nat):Int)]]) h2)=>hA.keep2 (g:=g) (fun _=>rfl) (by omega:g.clk≤c+1) (by show c+1 < c+1+1;omega) hSg q
  have hIG:I (G.tick (c+1+1)):=by
   obtain ⟨b,hb,k,hGe⟩:=hA.ext
   have h1:I (g.tick (c+1+1)):=hI _ _ i2 (by omega)
   have h2:c0≤b.1:=by
    rcases hb with hb|⟨m',e⟩
    ·omega
    ·rcases hSg with ⟨e1,_⟩|⟨b1,es,e1,_,_,_,q,_⟩
     ·rw [e1] at e;cases e
     ·rw [e1] at e;injection e with e2;rw [← e2];exact q
   rw [hGe]
   exact hI _ _ (hP _ b _ h1 h2) (Nat.le_refl _)
  have hSl:=hA.sl
  have hml:(l ++ [((next+j:Nat):Int)]).map iv=l.map iv ++ [[.int .i64 ((next+j:Nat):Int)]]:=by rw [List.map_append];rfl
  rw [← hml] at hSl
  have hih:=ih d (by omega) (l ++ [((next+j:Nat):Int)]) v' (next+j+1) (((next+j:Nat):Int)+1) (G.tick (c+1+1)) (by omega) (by omega) (by simp;omega) (fun x hx=>by
   rcases List.mem_append.1 hx with q|q
   ·exact hlx x q
   ·rw [List.mem_singleton.1 q];omega) (by simp only[go_sem];omega) hSl hIG
  rw [hml] at hih
  have hcx:=hnx j
  repeat' (first|refine st_seq_reg rfl (by first|(simp only[go_sem,hnv];rfl)|rfl) (by first|(simp only[go_sem,hnv];rfl)|rfl) ?_|refine st_reg rfl (by first|(simp only[go_sem,hnv];rfl)|rfl) (by first|(simp only[go_sem,hnv];rfl)|rfl) ?_|refine st_op ?_|refine st_det rfl (by simp (disch:=omega) only[go_sem,wr_i64,hnv];rfl) ?_|refine st_dop rfl ?_|(refine st_call (args:=[v',.int .i64 (((next+j:Nat):Int)+1)]) rfl (by first|(simp (disch:=omega) only[go_sem,wr_i64];rfl)|(simp (disch:=omega) only[go_sem])) (by simp only[List.all_cons,List.all_nil,hnv] <;> rfl) hih ?_;rintro x h' ⟨hkw,(⟨hf,rfl,hi2⟩|⟨y,hf,rfl,hd2⟩)⟩)|refine st_condT rfl ?_|refine st_condF rfl ?_|refine st_nil ?_|refine st_dnil ?_|refine st_tN ?_|refine st_skip ?_|refine st_ret ?_|refine st_tR ?_|refine st_bN ?_|refine st_bR ?_)
  ·have hkw2:=hk2 h' hkw
   refine ⟨(j+1,h'),⟨by show next+(j+1)≤n;omega,hi2,i3.trans hkw2,by rw [hcx];exact fnd_none i4 hf⟩,by show n - (next+(j+1)) < n - (next+j);omega,(by (try (try simp only[go_sem,addc2]));repeat' (first|exact trivial|refine And.intro ?_ ?_|rfl|(simp (disch:=omega) only[go_sem,if_yes,if_no,if_no];rfl)|(simp (disch:=omega) only[go_sem,if_yes,if_no,if_no]))),(by (try (try simp only[go_sem,addc2]));repeat' (first|exact trivial|refine And.intro ?_ ?_|rfl|(simp (disch:=omega) only[go_sem,if_yes,if_no,if_no];rfl)|(simp (disch:=omega) only[go_sem,if_yes,if_no,if_no]))),rfl,HOld.tick (by simp only[go_sem];omega)⟩
  ·have hkw2:=hk2 h' hkw
   simp (disch:=omega) only[AEnd,Tryz.results84,aresK,fin,go_sem,implies_true,true_and,and_true,List.reverse_cons,List.reverse_nil]
   exact ⟨(i3.trans hkw2).trans (KeepW.of (hS.keepW (i3.trans hkw2)) (fun _ _ _=>rfl) (by simp only[go_sem];omega)),.inr ⟨y,hpre (k:=j+1) (by rw [hcx];exact fnd_some i4 hf) (by omega),hD _ _ _ hd2 (by omega)⟩⟩
end Go.Proofs.YtoafigpikgigaaaGreatDoor

namespace Go.Proofs.YtoafigpikgigaaaGreatDoor
open Go.Av
attribute [local irreducible] thenA blockA awp awpOps awpD awp1
attribute [local go_sem_proc] Nat.reduceAdd Nat.reduceMul Nat.reduceEqDiff Nat.reduceBEq Nat.reduceLeDiff
attribute [local go_sem_proc ↓] reduceIte
attribute [local go_sem] if_yes if_no
set_option maxHeartbeats 8000000
set_option maxRecDepth 20000
theorem c83 (lp n m:Nat) (hn:n≤12) (hm:m≤12) (I:AH→Prop) (D:List Int→AH→Prop) (bad:List Int→Bool) (h:AH) (hI:∀ g k,I g→g.clk≤k→I (g.tick k)) (hP:∀ g b k,I g→h.clk≤b.1→I (g.put b k)) (hD:∀ x g k,D x g→g.clk≤k→D x (g.tick k))
  (hy:∀ xs g,(∀ x:Int,x ∈ xs→0≤x∧x < n)→xs.length≤12→h.clk≤g.clk→I g→AYields Tryz.prog lp [.lst 1 (xs.map iv)] g (fun v h'=>g.clk≤h'.clk∧(∀ b:Bid,h.clk≤b.1→b.1 < g.clk→h'.at_ b=g.at_ b)∧((bad xs=false∧v=.bool true∧I h') ∨ (bad xs=true∧v=.bool false∧D xs h'))))
  (h0:I h):ACalls Tryz.prog 83 [.fn (.yield lp) [] [],.iptr [.int .i64 (m:Nat)] 0,.iptr [.int .i64 (n:Nat)] 0] h (fun _ h'=>((chs n m 0).find? bad=none∧I h') ∨ ∃ y,(chs n m 0).find? bad=some y∧D y h'):=by
 have hid:(chs n m 0).map (([]:List Int) ++ ·)=chs n m 0:=by
  rw [show (([]:List Int) ++ ·)=(id:List Int→List Int) from funext fun x=>List.nil_append x,List.map_id]
 obtain ⟨d,hd⟩:∃ d,12≤d:=⟨12,Nat.le_refl _⟩
 refine ACalls.ofS tab Tryz.call83 Tryz.func83 rfl (fi:=⟨8,[],[3],none,[]⟩) rfl rfl (Nat.le_of_ble_eq_true rfl) ?_
 unfold startA
 refine asem_seq (fi:=⟨8,[],[3],none,[]⟩) tab mixed (by decide) ?_
 repeat' (first|refine st_reg rfl (by first|(simp only[go_sem];rfl)|rfl) (by first|(simp only[go_sem];rfl)|rfl) ?_|refine st_op ?_|refine st_det rfl (by simp (disch:=omega) only[go_sem,wr_i64];rfl) ?_|refine st_nil ?_|refine st_tN ?_)
 refine asem_seq (fi:=⟨8,[],[3],none,[]⟩) tab mixed (by decide) ?_
 repeat' (first|refine st_reg rfl (by first|(simp only[go_sem];rfl)|rfl) (by first|(simp only[go_sem];rfl)|rfl) ?_|refine st_op ?_|refine st_heap rfl (by simp (disch:=omega) only[go_sem,wr_i64];rfl) ?_|refine st_nil ?_|refine st_tN ?_)
 refine asem_seq (fi:=⟨8,[],[3],none,[]⟩) tab mixed (by decide) ?_
 repeat' (first|refine st_reg rfl (by first|(simp only[go_sem];rfl)|rfl) (by first|(simp only[go_sem];rfl)|rfl) ?_|refine st_op ?_|refine st_det rfl (by simp (disch:=omega) only[go_sem,wr_i64];rfl) ?_|refine st_store (by simp (disch:=omega) only[go_sem,wr_i64];rfl) ?_|refine st_nil ?_|refine st_tN ?_)
 refine ASem.knot (g:=.func 84) (cap:=wcap lp n m) 4 (d+1) rfl (by simp only[go_sem,↓reduceIte];rfl) ?_
 refine asem_awp (fi:=⟨8,[],[3],none,[]⟩) tab mixed (by decide) ?_
 simp only[go_sem]
 have hw:I ((h.tick (h.clk+1+1+1+1)).put (h.clk+1,4) none):=hP _ _ _ (hI _ _ h0 (by omega)) (by show h.clk≤h.clk+1;omega)
 repeat' (first|refine st_reg rfl (by first|(simp only[go_sem];rfl)|rfl) (by first|(simp only[go_sem];rfl)|rfl) ?_|refine st_op ?_|refine st_det rfl (by simp (disch:=omega) only[go_sem,wr_i64];rfl) ?_|(refine st_call (args:=[.nils,.int .i64 0]) rfl (by first|(simp (disch:=omega) only[go_sem];rfl)|(simp (disch:=omega) only[go_sem])) rfl (c84 lp n m h.clk hn hm I D bad hI hP hD hy m d (by omega) [] .nils 0 _ _ rfl (Nat.zero_le _) (Nat.zero_add _) (fun x hx=>by cases hx) (by simp only[go_sem];omega) (.inl ⟨rfl,rfl⟩) hw) ?_;rintro v h' ⟨_,(⟨hf,rfl,hi2⟩|⟨x,hf,rfl,hd2⟩)⟩)|refine st_nil ?_)
 ·simp (disch:=omega) only[AEnd,Tryz.results83,aresK,fin,go_sem,implies_true,true_and,and_true,List.reverse_cons,List.reverse_nil]
  exact .inl ⟨by rw [← hid];exact hf,hi2⟩
 ·simp (disch:=omega) only[AEnd,Tryz.results83,aresK,fin,go_sem,implies_true,true_and,and_true,List.reverse_cons,List.reverse_nil]
  exact .inr ⟨x,by rw [← hid];exact hf,hd2⟩
end Go.Proofs.YtoafigpikgigaaaGreatDoor

namespace Go.Proofs.YtoafigpikgigaaaGreatDoor
open Go.Av
attribute [local irreducible] thenA blockA awp awpOps awpD awp1
attribute [local go_sem_proc] Nat.reduceAdd Nat.reduceMul Nat.reduceEqDiff Nat.reduceBEq Nat.reduceLeDiff
attribute [local go_sem_proc ↓] reduceIte
attribute [local go_sem] if_yes if_no
set_option maxHeartbeats 8000000
set_option maxRecDepth 20000
def okB (t:Tw) (l:List Int):Bool:=(crL t (cls l)).isEmpty
def cloV (t:Tw) (most:Nat):AV:=match clo t most with
 | some l=>.tup [.lst 1 (l.map iv),.bool true]
 | none=>.tup [.nils,.bool false]
theorem catN_fpre {α:Type} {g:Nat→List α} {p:α→Bool} {x:α} {k:Nat} (h:(catN g k).find? p=some x):∀ {j:Nat},k≤j→(catN g j).find? p=some x
 | 0,hj=>by
  obtain rfl:k=0:=by omega
  exact h
 | j+1,hj=>by
  by_cases e:k=j+1
  ·rw [← e];exact h
  ·show (catN g j ++ g j).find? p=some x
   rw [List.find?_append,catN_fpre h (by omega)];rfl
theorem elt_all {l:List Int} {p:Int→Prop} (h:∀ x,x ∈ l→p x):∀ i,i < l.length→p (elt l i):=fun i hi=>h _ (elt_mem hi)
theorem c49 (t:Tw) (most:Nat) (hmo:most≤12) (hT:TwOk t):Pure Tryz.prog 49 [t.av,.int .i64 (most:Nat)] (fun v=>v=cloV t most):=by
 have hsn:=hT.sn
 have hC:clo t most=(catN (fun m=>chs t.sts.length m 0) (min most t.sts.length+1)).find? (okB t):=rfl
 have hminI:min ((most:Nat):Int) (t.sts.length:Int)=((min most t.sts.length:Nat):Int):=by omega
 have hminN:min most t.sts.length≤12:=by omega
 generalize min most t.sts.length=mm at *
 intro h
 have hn4:∀ b':Nat × Nat,b'.1 < h.clk→¬ b'=(h.clk,4):=fun b' hb'=>ne_fst hb' (Nat.le_refl _)
 have hn5:∀ b':Nat × Nat,b'.1 < h.clk→¬ b'=(h.clk,5):=fun b' hb'=>ne_fst hb' (Nat.le_refl _)
 have h45:¬ ((h.clk,4):Nat × Nat)=(h.clk,5):=ne_snd (by decide)
 have h54:¬ ((h.clk,5):Nat × Nat)=(h.clk,4):=ne_snd (by decide)
 let A:AH→Prop:=fun g=>h.clk+1≤g.clk∧(∀ b':Bid,b'.1 < h.clk→g.at_ b'=h.at_ b')
 let Z:AH→Prop:=fun g=>g.at_ (h.clk,4)=some ⟨1,[[.nils]]⟩∧g.at_ (h.clk,5)=some ⟨1,[[.bool false]]⟩
 refine ACalls.forget (ACalls.of tab mixed Tryz.call49 Tryz.func49 rfl (fi:=⟨35,[8],[2],none,[(6,[0,1,0,7,15,31,31,0,191,511],[(0,false),(2,true),(7,false),(1,false),(3,false),(4,false),(5,false),(6,false),(8,false),(9,false)])]⟩) rfl rfl (Nat.le_of_ble_eq_true rfl) (by decide) ?_)
 unfold startA
 simp only[go_sem]
 repeat' (first|refine st_seq_reg rfl (by first|(simp only[go_sem];rfl)|rfl) (by first|(simp only[go_sem];rfl)|rfl) ?_|refine st_op ?_|refine st_det rfl (by simp (disch:=omega) only[go_sem,wr_i64];rfl) ?_|refine st_heap rfl (by simp (disch:=omega) only[go_sem,wr_i64];rfl) ?_|refine st_nil ?_|refine st_seq ?_|refine st_block ?_)
 refine st_loopM (α:=Nat × AH) tab mixed [] [] (by repeat (first|exact trivial|refine ⟨rfl,?_⟩)) [] [] (by repeat (first|exact trivial|refine ⟨rfl,?_⟩)) (fun a=>[(6,.int .i64 (a.1:Nat))]) [(1,_),(2,_),(4,_),(5,_)] (fun _=>[]) [] (fun a=>a.2) (fun a=>a.1≤mm+1∧(catN (fun m=>chs t.sts.length m 0) a.1).find? (okB t)=none∧A a.2∧Z a.2∧a.2.lp=h.lp) (fun a=>mm+1 - a.1) (by decide) (0,((h.tick (h.clk+1)).put (h.clk,4) (some ⟨1,[[.nils]]⟩)).put (h.clk,5) (some ⟨1,[[.bool false]]⟩)) ⟨Nat.zero_le _,rfl,⟨by simp only[go_sem];omega,fun b' hb'=>by simp only[go_sem,if_neg (hn4 b' hb'),if_neg (hn5 b' hb')]⟩,⟨by simp only[go_sem,h45,h54,↓reduceIte],by simp only[go_sem,h45,h54,↓reduceIte]⟩,rfl⟩ (by (try simp only[go_sem]);repeat' (first|exact trivial|refine And.intro ?_ ?_|rfl|(simp (disch:=omega) only[go_sem,if_yes,if_no,if_no];rfl)|(simp (disch:=omega) only[go_sem,if_yes,if_no,if_no]))) (by (try simp only[go_sem]);repeat' (first|exact trivial|refine And.intro ?_ ?_|rfl|(simp (disch:=omega) only[go_sem,if_yes,if_no,if_no];rfl)|(simp (disch:=omega) only[go_sem,if_yes,if_no,if_no]))) (HOld.tick (by simp only[go_sem];omega)) ?_
 rintro ⟨m,g⟩ c M2 ⟨i1,i2,⟨i3,i4⟩,⟨i5,i6⟩,i7⟩ hc
 dsimp only at i1 i2 i3 i4 i5 i6 i7 hc
 simp only[go_sem]
 by_cases hm:m < mm+1
 case neg =>
  obtain rfl:m=mm+1:=by omega
  rw [i2] at hC
  repeat' (first|refine st_seq_reg rfl (by first|(simp only[go_sem,Lm,hminI,i5,i6,h45,h54];rfl)|rfl) (by first|(simp only[go_sem,Lm,hminI,i5,i6,h45,h54];rfl)|rfl) ?_|refine st_op ?_|refine st_det rfl (by simp (disch:=omega) only[go_sem,wr_i64,Lm,hminI,i5,i6,h45,h54];rfl) ?_|refine st_store (by simp (disch:=omega) only[go_sem,wr_i64,Lm,hminI,i5,i6,h45,h54];rfl) ?_|(refine st_condS rfl ?_ ?_ <;> intro hg <;> (try simp only[dcT,dcF,bnT,bnF] at hg))|refine st_nil ?_|refine st_tN ?_|refine st_seq ?_|refine st_block ?_|refine st_skip ?_|refine st_exit ?_|refine st_ret ?_|refine st_tE ?_|refine st_bH ?_)
  all_goals try (exfalso;omega)
  simp (disch:=omega) only[AEnd,Tryz.results49,aresK,fin,go_sem,implies_true,true_and,and_true,List.reverse_cons,List.reverse_nil,h45,h54]
  refine ⟨fun b' hb'=>by rw [if_neg (hn5 b' hb'),if_neg (hn4 b' hb')];exact i4 b' hb',i7,?_⟩
  unfold cloV;rw [hC]
 have k105:=c68 (t.sts.length:Nat) (m:Nat)
 repeat' (first|refine st_seq_reg rfl (by first|(simp only[go_sem,Lm,hminI];rfl)|rfl) (by first|(simp only[go_sem,Lm,hminI];rfl)|rfl) ?_|refine st_op ?_|refine st_det rfl (by simp (disch:=omega) only[go_sem,wr_i64,Lm,hminI];rfl) ?_|(refine st_pureE (by first|(simp (disch:=omega) only[go_sem,Lm,hminI];rfl)|rfl) rfl (k105) (by first|(simp only[go_sem,Lm,hminI];rfl)|rfl) (by intro n;first|(simp (disch:=omega) only[go_sem];rfl)|rfl) ?_;intro n hn)|(refine st_condS rfl ?_ ?_ <;> intro hg <;> (try simp only[dcT,dcF,bnT,bnF] at hg))|refine st_nil ?_|refine st_tN ?_|refine st_seq ?_|refine st_block ?_|refine st_skip ?_|refine st_exit ?_|refine st_tE ?_|refine st_bH ?_)
 all_goals try (exfalso;omega)
 refine st_rangeFunc rfl (by simp only[go_sem];rfl) (fun lp D R hR hlp=>?_)
 simp only[go_sem] at hlp
 let L:AH→Prop:=fun g'=>∀ l',l' ≠ lp→g'.lp l'=h.lp l'
 let I:AH→Prop:=fun g'=>g'.lp lp=some R∧L g'∧A g'∧Z g'
 let E:List Int→AH→Prop:=fun x g'=>g'.lp lp=some (R.stop .ret)∧L g'∧A g'∧g'.at_ (h.clk,4)=some ⟨1,[[.lst 1 (x.map iv)]]⟩∧g'.at_ (h.clk,5)=some ⟨1,[[.bool true]]⟩
 have hlp2:∀ h':AH,L h'→(h'.lpSet lp none).lp=h.lp:=by
  intro h' h3
  funext l'
  by_cases e:l'=lp
  ·rw [e,lpSet_same,← i7,hlp]
  ·rw [lpSet_ne _ _ e];exact h3 l' e
 refine (c83 lp t.sts.length m hsn (by omega) I E (okB t) _ ?_ ?_ ?_ ?_ ?_).mono ?_
 ·rintro g' k ⟨h1,h2,⟨h3,h3'⟩,h4⟩ hk
  exact ⟨h1,h2,⟨by show h.clk+1≤k;omega,h3'⟩,h4⟩
 ·rintro g' b k ⟨h1,h2,⟨h3,h3'⟩,h4,h5⟩ hkb
  simp only[go_sem] at hkb
  have q4:¬ ((h.clk,4):Nat × Nat)=b:=ne_fst (n:=n) (by show h.clk < n;omega) hkb
  have q5:¬ ((h.clk,5):Nat × Nat)=b:=ne_fst (n:=n) (by show h.clk < n;omega) hkb
  have hob:∀ b':Bid,b'.1 < h.clk→¬ b'=b:=fun b' hb'=>ne_fst (n:=n) (by omega) hkb
  exact ⟨h1,h2,⟨h3,fun b' hb'=>by simp only[go_sem];rw [if_neg (hob b' hb')];exact h3' b' hb'⟩,by simp only[go_sem,q4,↓reduceIte];exact h4,by simp only[go_sem,q5,↓reduceIte];exact h5⟩
 ·rintro x g' k ⟨h1,h2,⟨h3,h3'⟩,h4⟩ hk
  exact ⟨h1,h2,⟨by show h.clk+1≤k;omega,h3'⟩,h4⟩
 ·rintro xs g' hxs hxl hcg ⟨h1,h2,⟨h3,h3'⟩,h4,h5⟩
  simp only[go_sem] at hcg ⊢
  have k83:=c47 xs (by omega) (elt_all (p:=fun x=>0≤x∧x < 12) fun x hx=>by have:=hxs x hx;omega)
  have k95:=c69 t (cls xs) hT
  have hg':∀ b:Bid,n≤b.1→¬ b=(h.clk,4)∧¬ b=(h.clk,5):=fun b hb=>⟨fun e=>by rw [e] at hb;dsimp only at hb;omega,fun e=>by rw [e] at hb;dsimp only at hb;omega⟩
  refine AYields.canonD tab mixed [8] [] [(6,[0,1,0,7,15,31,31,0,191,511],[(0,false),(2,true),(7,false),(1,false),(3,false),(4,false),(5,false),(6,false),(8,false),(9,false)])] hR h1 rfl (by intro p hp;simp at hp;rcases hp with rfl;decide) [(24,.lst 1 (xs.map iv)),(2,.iptr t.cells 0),(4,.ptr (h.clk,4) 0 0),(5,.ptr (h.clk,5) 0 0)] ⟨rfl,rfl,rfl,rfl,trivial⟩ (by decide) (by decide) ?_
  unfold Tw.cells
  simp only[go_sem]
  repeat' (first|refine st_reg rfl (by first|(simp only[go_sem];rfl)|rfl) (by first|(simp only[go_sem];rfl)|rfl) ?_|refine st_op ?_|refine st_det rfl (by simp (disch:=omega) only[go_sem,wr_i64];rfl) ?_|refine st_nil ?_|refine st_tN ?_)
  refine ⟨by simp only[go_sem];exact h1,?_⟩
  dsimp only
  have hok:okB t xs=(crL t (cls xs)).isEmpty:=rfl
  unfold crV at k95
  cases hcr:crL t (cls xs) with
  | nil =>
   rw [hcr] at k95 hok
   dsimp only at k95
   repeat' (first|refine st_seq_reg rfl (by first|(simp only[go_sem,h4,h5,h45,h54];rfl)|rfl) (by first|(simp only[go_sem,h4,h5,h45,h54];rfl)|rfl) ?_|refine st_seq_draw rfl (by first|(simp only[go_sem,h4,h5,h45,h54];rfl)|rfl) (by first|(simp only[go_sem,h4,h5,h45,h54];rfl)|rfl) ?_|refine st_op ?_|refine st_det rfl (by simp (disch:=omega) only[go_sem,wr_i64,h4,h5,h45,h54];rfl) ?_|refine st_dop rfl ?_|refine st_loc rfl (by simp (disch:=omega) only[go_sem,wr_i64,h4,h5,h45,h54];rfl) ?_|refine st_store (by simp (disch:=omega) only[go_sem,wr_i64,h4,h5,h45,h54];rfl) ?_|(refine st_pureE (by first|(simp (disch:=omega) only[go_sem,h4,h5,h45,h54];rfl)|rfl) rfl (k83) (by first|(simp only[go_sem,h4,h5,h45,h54];rfl)|rfl) (by intro n;first|(simp (disch:=omega) only[go_sem];rfl)|rfl) ?_;intro n hn)|(refine st_pureE (by first|(simp (disch:=omega) only[go_sem,h4,h5,h45,h54];rfl)|rfl) rfl (k95) (by first|(simp only[go_sem,h4,h5,h45,h54];rfl)|rfl) (by intro n;first|(simp (disch:=omega) only[go_sem];rfl)|rfl) ?_;intro n hn)|refine st_condT rfl ?_|refine st_nil ?_|refine st_dnil ?_|refine st_block ?_|refine st_ret ?_|refine st_bR ?_)
   refine ⟨by simp only[go_sem],?_,fun b hb1 hb2=>?_,.inr ⟨hok,rfl,lpSet_same _ _ _,fun l' hl'=>?_,⟨?_,fun b' hb'=>?_⟩,?_,?_⟩⟩
   ·simp only[go_sem];omega
   ·simp only[go_sem,if_neg (hg' b hb1).1,if_neg (hg' b hb1).2]
   ·rw [lpSet_ne _ _ hl'];simp only[go_sem];rw [lpSet_ne _ _ hl'];exact h2 l' hl'
   ·simp only[go_sem];omega
   ·simp only[go_sem,if_neg (hn5 b' hb'),if_neg (hn4 b' hb')];exact h3' b' hb'
   ·simp (disch:=omega) only[go_sem,h45,h54,↓reduceIte] <;> rfl
   ·simp (disch:=omega) only[go_sem,h45,h54,↓reduceIte] <;> rfl
  | cons y ys =>
   rw [hcr] at k95 hok
   dsimp only at k95
   repeat' (first|refine st_seq_reg rfl (by first|(simp only[go_sem,h4,h5,h45,h54];rfl)|rfl) (by first|(simp only[go_sem,h4,h5,h45,h54];rfl)|rfl) ?_|refine st_seq_draw rfl (by first|(simp only[go_sem,h4,h5,h45,h54];rfl)|rfl) (by first|(simp only[go_sem,h4,h5,h45,h54];rfl)|rfl) ?_|refine st_op ?_|refine st_det rfl (by simp (disch:=omega) only[go_sem,wr_i64,h4,h5,h45,h54];rfl) ?_|refine st_dop rfl ?_|refine st_loc rfl (by simp (disch:=omega) only[go_sem,wr_i64,h4,h5,h45,h54];rfl) ?_|refine st_store (by simp (disch:=omega) only[go_sem,wr_i64,h4,h5,h45,h54];rfl) ?_|(refine st_pureE (by first|(simp (disch:=omega) only[go_sem,h4,h5,h45,h54];rfl)|rfl) rfl (k83) (by first|(simp only[go_sem,h4,h5,h45,h54];rfl)|rfl) (by intro n;first|(simp (disch:=omega) only[go_sem];rfl)|rfl) ?_;intro n hn)|(refine st_pureE (by first|(simp (disch:=omega) only[go_sem,h4,h5,h45,h54];rfl)|rfl) rfl (k95) (by first|(simp only[go_sem,h4,h5,h45,h54];rfl)|rfl) (by intro n;first|(simp (disch:=omega) only[go_sem];rfl)|rfl) ?_;intro n hn)|refine st_condF rfl ?_|refine st_nil ?_|refine st_dnil ?_|refine st_block ?_|refine st_skip ?_|refine st_bN ?_)
   refine ⟨by simp only[go_sem],?_,fun b hb1 hb2=>rfl,.inl ⟨hok,rfl,lpSet_same _ _ _,fun l' hl'=>?_,⟨?_,fun b' hb'=>h3' b' hb'⟩,h4,h5⟩⟩
   ·simp only[go_sem];omega
   ·rw [lpSet_ne _ _ hl'];simp only[go_sem];rw [lpSet_ne _ _ hl'];exact h2 l' hl'
   ·simp only[go_sem];omega
 ·exact ⟨lpSet_same _ _ _,fun l' hl'=>by rw [lpSet_ne _ _ hl'];simp only[go_sem];rw [i7],⟨by simp only[go_sem];omega,fun b' hb'=>i4 b' hb'⟩,i5,i6⟩
 ·have hnx:catN (fun m=>chs t.sts.length m 0) (m+1)=catN (fun m=>chs t.sts.length m 0) m ++ chs t.sts.length m 0:=rfl
  rintro v h' (⟨hf,h1,h2,⟨h3,h3'⟩,h4,h5⟩|⟨x,hf,h1,h2,⟨h3,h3'⟩,h4,h5⟩)
  ·refine .inl ⟨h1,st_bN (st_bN (st_tN ?_))⟩
   repeat' (first|refine st_reg rfl (by first|(simp only[go_sem];rfl)|rfl) (by first|(simp only[go_sem];rfl)|rfl) ?_|refine st_op ?_|refine st_det rfl (by simp (disch:=omega) only[go_sem,wr_i64];rfl) ?_|refine st_nil ?_|refine st_tN ?_)
   refine ⟨(m+1,h'.lpSet lp none),⟨by show m+1≤mm+1;omega,by show (catN _ (m+1)).find? _=none;rw [hnx];exact fnd_none i2 hf,⟨h3,fun b' hb'=>h3' b' hb'⟩,⟨h4,h5⟩,hlp2 h' h2⟩,by show mm+1 - (m+1) < mm+1 - m;omega,(by repeat' (first|exact trivial|refine And.intro ?_ ?_|rfl|(simp (disch:=omega) only[go_sem,if_yes,if_no,if_no];rfl)|(simp (disch:=omega) only[go_sem,if_yes,if_no,if_no]))),(by repeat' (first|exact trivial|refine And.intro ?_ ?_|rfl|(simp (disch:=omega) only[go_sem,if_yes,if_no,if_no];rfl)|(simp (disch:=omega) only[go_sem,if_yes,if_no,if_no]))),HOld.tick (by simp only[go_sem];omega)⟩
  ·refine .inr ⟨.ret,h1,ASem.ret (st_bR (st_bR (st_tR ?_)))⟩
   repeat' (first|refine st_tR ?_|refine st_bR ?_)
   simp (disch:=omega) only[AEnd,Tryz.results49,aresK,fin,go_sem,implies_true,true_and,and_true,List.reverse_cons,List.reverse_nil,hlp2 h' h2,h4,h5]
   refine ⟨h3',?_⟩
   have e:clo t most=some x:=by rw [hC];exact catN_fpre (k:=m+1) (by rw [hnx];exact fnd_some i2 hf) (by omega)
   unfold cloV;rw [e]
end Go.Proofs.YtoafigpikgigaaaGreatDoor
