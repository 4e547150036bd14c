/- Contracts of functions that the claim reaches: what each call gives, told in our own logic. Conditions: those of each theorem. -/
import Derived.Test.YtoafigpikgigaaaDoorQ24
import Derived.Test.YtoafigpikgigaaaDoorBaseD
import Derived.Test.YtoafigpikgigaaaDoorV8a
import Derived.Test.YtoafigpikgigaaaDoorQ23
import Derived.Test.YtoafigpikgigaaaDoorQ22a
open List (length_map)
set_option linter.all false
set_option linter.unusedSimpArgs false
set_option linter.unusedVariables false
namespace Go.Proofs.YtoafigpikgigaaaDoor
open Go.Av
attribute [local irreducible] thenA blockA awp awpOps awpD awp1
attribute [local go_sem_proc] Nat.reduceAdd Nat.reduceMul Nat.reduceEqDiff Nat.reduceBEq Nat.reduceLeDiff
attribute [local go_sem_proc ↓] reduceIte
attribute [local go_sem] if_yes if_no
set_option maxHeartbeats 8000000
set_option maxRecDepth 20000
structure WhS where
 i:Nat
 v:AV
 g:AH
theorem le_nil3 (z:Nat) (b:Bool) (e:Int):VLe (.tup [.nils,.bool b,.int .i64 e]) (.tup [.lst z [],.bool b,.int .i64 e]):=VLe.tup (by simp only[VLes];exact ⟨_,_,rfl,VLe.nils z,_,_,rfl,VLe.refl _,_,_,rfl,VLe.refl _,rfl⟩)
theorem ansB {h g:AH} {v:AV} {z:Nat} {l:List (List AV)} {R:AV→Prop} {b:Bool} {e:Int} (hS:SlA h.clk g v z l) (hR:R (.tup [.lst z l,.bool b,.int .i64 e])):(∃ v',VLe (.tup [v,.bool b,.int .i64 e]) v'∧R v') ∨ ∃ b2 k',h.clk≤b2.1∧g.at_ b2=some k'∧R (frz b2 k' (.tup [v,.bool b,.int .i64 e])):=by
 rcases hS with ⟨rfl,rfl⟩|⟨b1,rfl,h2,h3,h4⟩
 ·exact .inl ⟨_,le_nil3 z b e,hR⟩
 ·exact .inr ⟨b1,_,h3,h2,by have e:=frz_lst (b:=b1) (z:=z) (l:=l);simp only[frz,frzs] at e ⊢;rw [e];exact hR⟩
def MapIs (t:Tw) (s:Nat→Int) (g:Gp) (st:Int) (n:Nat) (L:List (Int × AV)):Prop:=∀ q:Int,aget L q=if someN t s g q st n=true then some (.bool true) else none
theorem MapIs.next {t:Tw} {s:Nat→Int} {g:Gp} {st:Int} {n:Nat} {L:List (Int × AV)} (h:MapIs t s g st n L):MapIs t s g st (n+1) (aset L (plc t s g (g.alo+(n:Nat)) st) (.bool true)):=by
 intro q
 rw [aget_aset,h q,someN_next]
 by_cases e:q=plc t s g (g.alo+(n:Nat)) st
 ·rw [if_pos e,e];simp
 ·rw [if_neg e,decide_eq_false (fun e1=>e e1.symm),Bool.or_false]
theorem c7 (t:Tw) (c:List Int) (g st:Int) (hcl:c.length≤1000000):Pure Tryd.prog 7 [t.av,.lst 1 (c.map iv),.int .i64 g,.int .i64 st] (fun v=>v=whV t c g st):=by
 have k74:=c22 t c hcl
 have ht0:t.av=.agg t.cells:=rfl
 refine Pure.giveM Tryd.call7 fun h hall=>?_
 by_cases h0:cloE t c=0
 case neg =>
  refine ACalls.of tab mixed Tryd.call7 Tryd.func7 rfl (fi:=⟨68,[12],[4,27,34,62,1000018],none,[(9,[0,1,0,0,8,0,56,120,0,511],[(0,false),(2,true),(3,false),(4,true),(5,false),(6,false),(7,true),(8,false),(1,false),(9,false)]),(18,[0,0,2,1,15,31],[(0,false),(1,true),(2,false),(3,false),(4,false),(5,false)])]⟩) rfl rfl (Nat.le_of_ble_eq_true rfl) (by decide) ?_
  unfold startA
  simp only[go_sem]
  repeat' (first|refine st_seq_reg rfl (by first|(simp only[go_sem];rfl)|rfl) (by first|(simp only[go_sem];rfl)|rfl) ?_|refine st_op ?_|refine st_det rfl (by simp (disch:=omega) only[go_sem,wr_i64];rfl) ?_|(refine st_pureE (by first|(simp (disch:=omega) only[go_sem];rfl)|rfl) rfl (k74) (by first|(simp only[go_sem];rfl)|rfl) (by intro n;first|(simp (disch:=omega) only[go_sem];rfl)|rfl) ?_;intro n hn)|(refine st_condS rfl ?_ ?_ <;> intro hg <;> (try simp only[dcT,dcF,bnT,bnF] at hg))|refine st_nil ?_|refine st_tN ?_|refine st_seq ?_|refine st_block ?_|refine st_skip ?_|refine st_ret ?_|refine st_tR ?_)
  all_goals try (exfalso;omega)
  simp (disch:=omega) only[AEnd,Tryd.results7,aresK,fin,go_sem,implies_true,true_and,and_true,List.reverse_cons,List.reverse_nil]
  exact ⟨fun _ _ e=>e,.inl ⟨_,le_nil3 1 false _,by unfold whV;rw [if_pos h0]⟩⟩
 rw [h0] at k74
 obtain ⟨hT,hc⟩:=cloOk h0
 have hrn:=hT.rn
 have hsn:=hT.sn
 have hgn:=hT.gn
 have hst:=hT.steps
 have k68:=c20a 0 (t.gs.length - 1:Int) g
 have k68b:=c20a 0 t.steps st
 by_cases h1:0≤g∧g≤t.gs.length - 1
 case neg =>
  rw [decide_eq_false h1] at k68
  refine ACalls.of tab mixed Tryd.call7 Tryd.func7 rfl (fi:=⟨68,[12],[4,27,34,62,1000018],none,[(9,[0,1,0,0,8,0,56,120,0,511],[(0,false),(2,true),(3,false),(4,true),(5,false),(6,false),(7,true),(8,false),(1,false),(9,false)]),(18,[0,0,2,1,15,31],[(0,false),(1,true),(2,false),(3,false),(4,false),(5,false)])]⟩) rfl rfl (Nat.le_of_ble_eq_true rfl) (by decide) ?_
  unfold startA
  rw [ht0]
  unfold Tw.cells
  repeat' (first|refine st_seq_reg rfl (by first|(simp only[go_sem,length_map];rfl)|rfl) (by first|(simp only[go_sem,length_map];rfl)|rfl) ?_|refine st_op ?_|refine st_det rfl (by simp (disch:=omega) only[go_sem,wr_i64,length_map];rfl) ?_|(refine st_pureE (by first|(simp (disch:=omega) only[go_sem,length_map];rfl)|rfl) rfl (k74) (by first|(simp only[go_sem,length_map];rfl)|rfl) (by intro n;first|(simp (disch:=omega) only[go_sem];rfl)|rfl) ?_;intro n hn)|(refine st_pureE (by first|(simp (disch:=omega) only[go_sem,length_map];rfl)|rfl) rfl (k68) (by first|(simp only[go_sem,length_map];rfl)|rfl) (by intro n;first|(simp (disch:=omega) only[go_sem];rfl)|rfl) ?_;intro n hn)|refine st_condT rfl ?_|refine st_condF rfl ?_|refine st_nil ?_|refine st_tN ?_|refine st_seq ?_|refine st_block ?_|refine st_skip ?_|refine st_ret ?_|refine st_tR ?_|refine st_bR ?_)
  all_goals try (exfalso;omega)
  simp (disch:=omega) only[AEnd,Tryd.results7,aresK,fin,go_sem,implies_true,true_and,and_true,List.reverse_cons,List.reverse_nil]
  exact ⟨fun _ _ e=>e,.inl ⟨_,le_nil3 1 false 7,by unfold whV;rw [if_neg (fun e=>e h0),if_pos (by omega)]⟩⟩
 rw [decide_eq_true h1] at k68
 by_cases h2:0≤st∧st≤t.steps
 case neg =>
  rw [decide_eq_false h2] at k68b
  refine ACalls.of tab mixed Tryd.call7 Tryd.func7 rfl (fi:=⟨68,[12],[4,27,34,62,1000018],none,[(9,[0,1,0,0,8,0,56,120,0,511],[(0,false),(2,true),(3,false),(4,true),(5,false),(6,false),(7,true),(8,false),(1,false),(9,false)]),(18,[0,0,2,1,15,31],[(0,false),(1,true),(2,false),(3,false),(4,false),(5,false)])]⟩) rfl rfl (Nat.le_of_ble_eq_true rfl) (by decide) ?_
  unfold startA
  rw [ht0]
  unfold Tw.cells
  repeat' (first|refine st_seq_reg rfl (by first|(simp only[go_sem,length_map];rfl)|rfl) (by first|(simp only[go_sem,length_map];rfl)|rfl) ?_|refine st_op ?_|refine st_det rfl (by simp (disch:=omega) only[go_sem,wr_i64,length_map];rfl) ?_|(refine st_pureE (by first|(simp (disch:=omega) only[go_sem,length_map];rfl)|rfl) rfl (k74) (by first|(simp only[go_sem,length_map];rfl)|rfl) (by intro n;first|(simp (disch:=omega) only[go_sem];rfl)|rfl) ?_;intro n hn)|(refine st_pureE (by first|(simp (disch:=omega) only[go_sem,length_map];rfl)|rfl) rfl (k68) (by first|(simp only[go_sem,length_map];rfl)|rfl) (by intro n;first|(simp (disch:=omega) only[go_sem];rfl)|rfl) ?_;intro n hn)|(refine st_pureE (by first|(simp (disch:=omega) only[go_sem,length_map];rfl)|rfl) rfl (k68b) (by first|(simp only[go_sem,length_map];rfl)|rfl) (by intro n;first|(simp (disch:=omega) only[go_sem];rfl)|rfl) ?_;intro n hn)|refine st_condT rfl ?_|refine st_condF rfl ?_|refine st_nil ?_|refine st_tN ?_|refine st_seq ?_|refine st_block ?_|refine st_skip ?_|refine st_ret ?_|refine st_tR ?_|refine st_bR ?_)
  all_goals try (exfalso;omega)
  simp (disch:=omega) only[AEnd,Tryd.results7,aresK,fin,go_sem,implies_true,true_and,and_true,List.reverse_cons,List.reverse_nil]
  exact ⟨fun _ _ e=>e,.inl ⟨_,le_nil3 1 false 2,by unfold whV;rw [if_neg (fun e=>e h0),if_neg (fun e=>e ⟨h1.1,by omega⟩),if_pos h2]⟩⟩
 rw [decide_eq_true h2] at k68b
 obtain ⟨G,rfl⟩:∃ m:Nat,g=m:=⟨g.toNat,by omega⟩
 have hG:G < t.gs.length:=by omega
 have hGp:=hT.g G hG
 have k83:=c23 c hcl (fun i hi=>by have:=hc i hi;omega)
 have k87:=c24 t (cls c) (gp t.gs G) st
 have hV:whV t c (G:Nat) st=.tup [.lst 1 ((whN t (cls c) (gp t.gs G) st t.rooms.length).map iv),.bool (someB t (cls c) (gp t.gs G) (-1) st),.int .i64 0]:=by
  unfold whV;rw [if_neg (fun e=>e h0),if_neg (fun e=>e ⟨h1.1,by omega⟩),if_neg (fun e=>e h2)];rfl
 rw [hV]
 refine ACalls.of tab mixed Tryd.call7 Tryd.func7 rfl (fi:=⟨68,[],[4,27,34,62,1000018],none,[(9,[0,1,0,0,8,0,56,120,0,511],[(0,false),(2,true),(3,false),(4,true),(5,false),(6,false),(7,true),(8,false),(1,false),(9,false)]),(18,[0,0,2,1,15,31],[(0,false),(1,true),(2,false),(3,false),(4,false),(5,false)])]⟩) rfl rfl (Nat.le_of_ble_eq_true rfl) (by decide) ?_
 unfold startA
 rw [ht0]
 unfold Tw.cells
 repeat' (first|refine st_seq_reg rfl (by first|(simp only[go_sem,length_map];rfl)|rfl) (by first|(simp only[go_sem,length_map];rfl)|rfl) ?_|refine st_seq_draw rfl (by first|(simp only[go_sem,length_map];rfl)|rfl) (by first|(simp only[go_sem,length_map];rfl)|rfl) ?_|refine st_op ?_|refine st_det rfl (by simp (disch:=omega) only[go_sem,wr_i64,length_map];rfl) ?_|refine st_dop rfl ?_|refine st_heap rfl (by simp (disch:=omega) only[go_sem,wr_i64,length_map];rfl) ?_|refine st_store (by simp (disch:=omega) only[go_sem,wr_i64,length_map];rfl) ?_|(refine st_pureE (by first|(simp (disch:=omega) only[go_sem,length_map];rfl)|rfl) rfl (k74) (by first|(simp only[go_sem,length_map];rfl)|rfl) (by intro n;first|(simp (disch:=omega) only[go_sem];rfl)|rfl) ?_;intro n hn)|(refine st_pureE (by first|(simp (disch:=omega) only[go_sem,length_map];rfl)|rfl) rfl (k68) (by first|(simp only[go_sem,length_map];rfl)|rfl) (by intro n;first|(simp (disch:=omega) only[go_sem];rfl)|rfl) ?_;intro n hn)|(refine st_pureE (by first|(simp (disch:=omega) only[go_sem,length_map];rfl)|rfl) rfl (k68b) (by first|(simp only[go_sem,length_map];rfl)|rfl) (by intro n;first|(simp (disch:=omega) only[go_sem];rfl)|rfl) ?_;intro n hn)|(refine st_pureE (by first|(simp (disch:=omega) only[go_sem,length_map];rfl)|rfl) rfl (k83) (by first|(simp only[go_sem,length_map];rfl)|rfl) (by intro n;first|(simp (disch:=omega) only[go_sem];rfl)|rfl) ?_;intro n hn)|(refine st_pureE (by first|(simp (disch:=omega) only[go_sem,length_map];rfl)|rfl) rfl (k87) (by first|(simp only[go_sem,length_map];rfl)|rfl) (by intro n;first|(simp (disch:=omega) only[go_sem];rfl)|rfl) ?_;intro n hn)|(refine st_mkMap ?_;intro l hl)|refine st_condF rfl ?_|refine st_nil ?_|refine st_dnil ?_|refine st_tN ?_|refine st_seq ?_|refine st_block ?_|refine st_skip ?_|refine st_bN ?_)
 all_goals try (exfalso;omega)
 refine st_rangeFunc rfl (by simp only[go_sem];rfl) (fun l2 D R hR hlp=>?_)
 simp only[go_sem] at hlp
 rename_i N8 hN8 N9 hN9
 have hne:l ≠ l2:=fun e=>by rw [← e,lpSet_same] at hlp;cases hlp
 rw [lpSet_ne _ _ hne.symm] at hlp
 have hl':h.lp l=none:=hl
 have hlp':h.lp l2=none:=hlp
 let I:Nat→AH→Prop:=fun i g'=>g'.lp l2=some R∧(∃ L,g'.lp l=some (mrec L)∧MapIs t (cls c) (gp t.gs G) st i L)∧n≤g'.clk∧(∀ b':Bid,b'.1 < h.clk→g'.at_ b'=h.at_ b')∧(∀ l' r,h.lp l'=some r→g'.lp l'=some r)∧g'.at_ (N8,12)=some ⟨1,[[.mp l]]⟩
 have hn12:∀ b':Nat × Nat,b'.1 < h.clk→¬ b'=(N8,12):=fun b' hb'=>ne_fst hb' (by show h.clk≤N8;omega)
 have hold:∀ {l':Nat} {r:LRec},h.lp l'=some r→l' ≠ l∧l' ≠ l2:=fun e=>⟨fun q=>(by rw [q,hl'] at e;cases e),fun q=>(by rw [q,hlp'] at e;cases e)⟩
 refine (c41 t (cls c) (gp t.gs G) st l2 hT hGp ⟨by omega,by omega⟩ I ?_ ?_ _ ?_).mono ?_
 ·rintro i g' m ⟨h1,h2,h3,h4,h5,h6⟩ hm
  exact ⟨h1,h2,by show n≤m;omega,h4,h5,h6⟩
 ·rintro i g' hi ⟨h1,⟨L,hL,hM⟩,h3,h4,h5,h6⟩
  have hLb:∀ r,(g'.lpSet l2 r).lp l=some (mrec L):=fun r=>by rw [lpSet_ne _ _ hne];exact hL
  refine AYields.canonD tab mixed [] [] [(9,[0,1,0,0,8,0,56,120,0,511],[(0,false),(2,true),(3,false),(4,true),(5,false),(6,false),(7,true),(8,false),(1,false),(9,false)]),(18,[0,0,2,1,15,31],[(0,false),(1,true),(2,false),(3,false),(4,false),(5,false)])] hR h1 rfl (by intro p hp;simp at hp;rcases hp with rfl;decide) [(48,.int .i64 (plc t (cls c) (gp t.gs G) ((gp t.gs G).alo+(i:Nat)) st)),(12,.ptr (N8,12) 0 0)] ⟨rfl,rfl,trivial⟩ (by decide) (by decide) ?_
  simp only[go_sem]
  repeat' (first|refine st_reg rfl (by first|(simp only[go_sem];rfl)|rfl) (by first|(simp only[go_sem];rfl)|rfl) ?_|refine st_op ?_|refine st_det rfl (by simp (disch:=omega) only[go_sem,wr_i64];rfl) ?_|refine st_nil ?_|refine st_tN ?_)
  refine ⟨h1,?_⟩
  dsimp only
  have hMn:=hM.next
  generalize plc t (cls c) (gp t.gs G) ((gp t.gs G).alo+(i:Nat)) st=p at *
  repeat' (first|refine st_reg rfl (by first|(simp only[go_sem,h6];rfl)|rfl) (by first|(simp only[go_sem,h6];rfl)|rfl) ?_|refine st_op ?_|refine st_det rfl (by simp (disch:=omega) only[go_sem,wr_i64,h6];rfl) ?_|(refine st_mapUp (l:=l) (L:=L) (n:=p) (v:=.bool true) Tryd.underlying63 Tryd.underlying3 (by first|(simp only[go_sem];rfl)|rfl) (by first|(simp only[go_sem];rfl)|rfl) rfl rfl (by first|exact hLb _|(simp only[go_sem];exact hLb _)) ?_)|refine st_nil ?_|refine st_block ?_|refine st_bN ?_)
  all_goals
   refine ⟨?_,rfl,lpSet_same _ _ _,⟨_,?_,hMn⟩,by simp only[go_sem];omega,fun b' hb'=>?_,fun l' r hl1=>?_,?_⟩
   ·rw [lpSet_ne _ _ hne.symm];exact lpSet_same _ _ _
   ·rw [lpSet_ne _ _ hne];exact lpSet_same _ _ _
   ·simp only[go_sem];exact h4 b' hb'
   ·rw [lpSet_ne _ _ (hold hl1).2,lpSet_ne _ _ (hold hl1).1]
    show (g'.lpSet l2 _).lp l'=_
    rw [lpSet_ne _ _ (hold hl1).2];exact h5 l' r hl1
   ·simp only[go_sem];exact h6
 ·refine ⟨lpSet_same _ _ _,⟨[],?_,fun q=>rfl⟩,by simp only[go_sem];omega,fun b' hb'=>?_,fun l' r hl1=>?_,by simp only[go_sem,↓reduceIte]⟩
  ·rw [lpSet_ne _ _ hne]
   show ((h.tick (N8+1)).lpSet l (some (mrec []))).lp l=_
   exact lpSet_same _ _ _
  ·simp only[go_sem,if_neg (hn12 b' hb')]
  ·rw [lpSet_ne _ _ (hold hl1).2]
   show ((h.tick (N8+1)).lpSet l (some (mrec []))).lp l'=_
   rw [lpSet_ne _ _ (hold hl1).1];exact hl1
 rintro v h' ⟨h1,⟨L,hL,hM⟩,h3,h4,h5,h6⟩
 refine .inl ⟨h1,st_bN (st_tN ?_)⟩
 have hMB:∀ q:Int,aget L q=if someB t (cls c) (gp t.gs G) q st=true then some (.bool true) else none:=hM
 have hL2:∀ r,(h'.lpSet l2 r).lp l=some (mrec L):=fun r=>by rw [lpSet_ne _ _ hne];exact hL
 have h52:∀ l' r,h.lp l'=some r→(h'.lpSet l2 none).lp l'=some r:=fun l' r hl1=>by rw [lpSet_ne _ _ (hold hl1).2];exact h5 l' r hl1
 have hL3:=hL2 none
 have h62:(h'.lpSet l2 none).at_ (N8,12)=some ⟨1,[[.mp l]]⟩:=h6
 have h42:∀ b':Bid,b'.1 < h.clk→(h'.lpSet l2 none).at_ b'=h.at_ b':=h4
 have h32:n≤(h'.lpSet l2 none).clk:=h3
 clear hL h5 h6 h4 h3 hL2 hM h1
 generalize h'.lpSet l2 none=g1 at *
 repeat' (first|refine st_seq_reg rfl (by first|(simp only[go_sem,length_map];rfl)|rfl) (by first|(simp only[go_sem,length_map];rfl)|rfl) ?_|refine st_op ?_|refine st_det rfl (by simp (disch:=omega) only[go_sem,wr_i64,length_map];rfl) ?_|refine st_nil ?_|refine st_seq ?_|refine st_block ?_)
 all_goals try (exfalso;omega)
 refine st_loopH (α:=WhS) tab mixed [] [] (by repeat (first|exact trivial|refine ⟨rfl,?_⟩)) [] [] (by repeat (first|exact trivial|refine ⟨rfl,?_⟩)) (fun a=>[(54,.int .i64 (a.i:Nat)),(8,a.v)]) [(12,_),(53,_)] (fun _=>[]) [] (fun a=>a.g) (fun a=>a.i≤t.rooms.length∧a.g.lp=g1.lp∧(∀ b':Bid,b'.1 < N8+1→a.g.at_ b'=g1.at_ b')∧N8 < a.g.clk∧SlA (N8+1) a.g a.v 1 ((whN t (cls c) (gp t.gs G) st a.i).map iv)) (fun a=>t.rooms.length - a.i) (by decide) ⟨0,.nils,_⟩ (by refine ⟨Nat.zero_le _,rfl,fun _ _=>rfl,by simp only[go_sem];omega,.inl ⟨rfl,rfl⟩⟩) (by (try simp only[go_sem]);repeat' (first|exact trivial|refine And.intro ?_ ?_|rfl|(simp (disch:=omega) only[go_sem,if_yes,if_no,if_no];rfl)|(simp (disch:=omega) only[go_sem,if_yes,if_no,if_no]))) (by (try simp only[go_sem]);repeat' (first|exact trivial|refine And.intro ?_ ?_|rfl|(simp (disch:=omega) only[go_sem,if_yes,if_no,if_no];rfl)|(simp (disch:=omega) only[go_sem,if_yes,if_no,if_no]))) (HOld.refl _) ?_
 rintro ⟨i,v,g⟩ d ⟨i1,i2,i3,i4,hS⟩ hd
 dsimp only at i1 i2 i3 i4 hS hd
 simp only[go_sem]
 have hgl:g.lp l=some (mrec L):=by rw [i2];exact hL3
 have hg6:g.at_ (N8,12)=some ⟨1,[[.mp l]]⟩:=by rw [i3 _ (Nat.lt_succ_self _)];exact h62
 have hwl:=whN_len (t:=t) (s:=cls c) (g:=gp t.gs G) (st:=st) i
 by_cases hi:i < t.rooms.length
 case pos =>
  have hnc:=hS.noL
  by_cases hb:someB t (cls c) (gp t.gs G) (i:Nat) st=true
  ·have hnx:whN t (cls c) (gp t.gs G) st (i+1)=whN t (cls c) (gp t.gs G) st i ++ [((i:Nat):Int)]:=by
    show whN t (cls c) (gp t.gs G) st i ++ _=_
    rw [if_pos hb]
   have hai:aget L ((i:Nat):Int)=some (.bool true):=by rw [hMB,if_pos hb]
   repeat' (first|refine st_seq_reg rfl (by first|(simp only[go_sem,length_map,hg6];rfl)|rfl) (by first|(simp only[go_sem,length_map,hg6];rfl)|rfl) ?_|refine st_reg rfl (by first|(simp only[go_sem,length_map,hg6];rfl)|rfl) (by first|(simp only[go_sem,length_map,hg6];rfl)|rfl) ?_|refine st_op ?_|refine st_det rfl (by simp (disch:=omega) only[go_sem,wr_i64,length_map,hg6];rfl) ?_|(refine st_mapGet (l:=l) (L:=L) (n:=(i:Nat)) Tryd.underlying63 Tryd.underlying3 inf4 rfl (by first|(simp only[go_sem,hg6];rfl)|rfl) (by first|(simp only[go_sem];rfl)|rfl) (by first|exact hgl|(simp only[go_sem];exact hgl)) ?_;simp only[hai,Option.getD_some,go_sem,↓reduceIte,Bool.false_eq_true])|(refine st_appS (by intro h id x y;simp only[go_sem];rfl) rfl (by simp only[go_sem,length_map,hg6];rfl) (by first|(simp only[go_sem,length_map,hg6];rfl)|rfl) (by decide) hS (fun _ _ _=>rfl) (by omega) (by simp only[length_map,List.length_cons,List.length_nil,big,length_map,hg6];omega) (by omega) (by omega) ?_;intro v' g' hA)|refine st_condT rfl ?_|(refine st_condS rfl ?_ ?_ <;> intro hg <;> (try simp only[dcT,dcF,bnT,bnF] at hg))|refine st_nil ?_|refine st_tN ?_|refine st_seq ?_|refine st_block ?_|refine st_skip ?_|refine st_exit ?_|refine st_tE ?_|refine st_bN ?_|refine st_bH ?_)
   all_goals try (exfalso;omega)
   refine ⟨⟨i+1,v',_⟩,(by refine ⟨by show i+1≤_;omega,hA.lp.trans i2,fun b' hb'=>(hA.old b' hb').trans (i3 b' hb'),by simp only[go_sem];omega,by rw [hnx,List.map_append];exact hA.sl.to (fun _ _ _ _ _=>rfl) (by simp only[go_sem];omega)⟩),by show t.rooms.length - (i+1) < t.rooms.length - i;omega,(by repeat' (first|exact trivial|refine And.intro ?_ ?_|rfl|(simp (disch:=omega) only[go_sem,if_yes,if_no,if_no];rfl)|(simp (disch:=omega) only[go_sem,if_yes,if_no,if_no]))),(by repeat' (first|exact trivial|refine And.intro ?_ ?_|rfl|(simp (disch:=omega) only[go_sem,if_yes,if_no,if_no];rfl)|(simp (disch:=omega) only[go_sem,if_yes,if_no,if_no]))),rfl,HOld.refl _⟩
  ·have hnx:whN t (cls c) (gp t.gs G) st (i+1)=whN t (cls c) (gp t.gs G) st i:=by
    show whN t (cls c) (gp t.gs G) st i ++ _=_
    rw [if_neg hb,List.append_nil]
   have hai:aget L ((i:Nat):Int)=none:=by rw [hMB,if_neg hb]
   repeat' (first|refine st_seq_reg rfl (by first|(simp only[go_sem,length_map,hg6];rfl)|rfl) (by first|(simp only[go_sem,length_map,hg6];rfl)|rfl) ?_|refine st_reg rfl (by first|(simp only[go_sem,length_map,hg6];rfl)|rfl) (by first|(simp only[go_sem,length_map,hg6];rfl)|rfl) ?_|refine st_op ?_|refine st_det rfl (by simp (disch:=omega) only[go_sem,wr_i64,length_map,hg6];rfl) ?_|(refine st_mapGet (l:=l) (L:=L) (n:=(i:Nat)) Tryd.underlying63 Tryd.underlying3 inf4 rfl (by first|(simp only[go_sem,hg6];rfl)|rfl) (by first|(simp only[go_sem];rfl)|rfl) (by first|exact hgl|(simp only[go_sem];exact hgl)) ?_;simp only[hai,Option.getD_none,go_sem,↓reduceIte,Bool.false_eq_true])|refine st_condF rfl ?_|(refine st_condS rfl ?_ ?_ <;> intro hg <;> (try simp only[dcT,dcF,bnT,bnF] at hg))|refine st_nil ?_|refine st_tN ?_|refine st_seq ?_|refine st_block ?_|refine st_skip ?_|refine st_exit ?_|refine st_tE ?_|refine st_bN ?_|refine st_bH ?_)
   all_goals try (exfalso;omega)
   refine ⟨⟨i+1,v,_⟩,(by refine ⟨by show i+1≤_;omega,i2,fun b' hb'=>i3 b' hb',by simp only[go_sem];omega,by rw [hnx];exact hS.to (fun _ _ _ _ _=>rfl) (by simp only[go_sem];omega)⟩),by show t.rooms.length - (i+1) < t.rooms.length - i;omega,(by repeat' (first|exact trivial|refine And.intro ?_ ?_|rfl|(simp (disch:=omega) only[go_sem,if_yes,if_no,if_no];rfl)|(simp (disch:=omega) only[go_sem,if_yes,if_no,if_no]))),(by repeat' (first|exact trivial|refine And.intro ?_ ?_|rfl|(simp (disch:=omega) only[go_sem,if_yes,if_no,if_no];rfl)|(simp (disch:=omega) only[go_sem,if_yes,if_no,if_no]))),rfl,HOld.refl _⟩
 obtain rfl:i=t.rooms.length:=by omega
 repeat' (first|refine st_seq_reg rfl (by first|(simp only[go_sem];rfl)|rfl) (by first|(simp only[go_sem];rfl)|rfl) ?_|refine st_op ?_|refine st_det rfl (by simp (disch:=omega) only[go_sem,wr_i64];rfl) ?_|(refine st_condS rfl ?_ ?_ <;> intro hg <;> (try simp only[dcT,dcF,bnT,bnF] at hg))|refine st_nil ?_|refine st_tN ?_|refine st_seq ?_|refine st_block ?_|refine st_skip ?_|refine st_exit ?_|refine st_tE ?_|refine st_bH ?_)
 all_goals try (exfalso;omega)
 have hbz:(aget L (-1)).getD (.bool false)=.bool (someB t (cls c) (gp t.gs G) (-1) st):=by
  rw [hMB]
  split
  ·rename_i e;rw [e];rfl
  ·rename_i e
   cases e2:someB t (cls c) (gp t.gs G) (-1) st with
   | false=>rfl
   | true=>exact absurd e2 e
 refine st_free ?_
 refine ASem.drawAll (fi:=⟨68,[],[4,27,34,62],none,[(9,[0,1,0,0,8,0,56,120,0,511],[(0,false),(2,true),(3,false),(4,true),(5,false),(6,false),(7,true),(8,false),(1,false),(9,false)]),(18,[0,0,2,1,15,31],[(0,false),(1,true),(2,false),(3,false),(4,false),(5,false)])]⟩) tab mixed (by decide) ?_
 repeat' (first|refine st_det rfl (by simp (disch:=omega) only[go_sem,wr_i64,hg6];rfl) ?_|(refine st_all2 (i:=0) (j:=1) (by decide +kernel) rfl rfl rfl rfl ?_ ?_)|(refine st_all2 (i:=1) (j:=3) (by decide +kernel) rfl rfl rfl rfl ?_ ?_)|(refine st_all2 (i:=2) (j:=3) (by decide +kernel) rfl rfl rfl rfl ?_ ?_)|(refine st_all2 (i:=0) (j:=2) (by decide +kernel) rfl rfl rfl rfl ?_ ?_)|(refine st_all1 (i:=0) (by decide +kernel) rfl rfl ?_)|(refine st_all1 (i:=1) (by decide +kernel) rfl rfl ?_)|(refine st_all1 (i:=2) (by decide +kernel) rfl rfl ?_)|(refine st_all1 (i:=3) (by decide +kernel) rfl rfl ?_)|(refine st_all1 (i:=4) (by decide +kernel) rfl rfl ?_)|(refine st_all1 (i:=5) (by decide +kernel) rfl rfl ?_)|(refine st_allZ (by decide +kernel) ?_)|(refine st_mapGet (l:=l) (L:=L) (n:=-1) Tryd.underlying63 Tryd.underlying3 inf4 rfl (by first|(simp only[go_sem,hg6];rfl)|rfl) (by first|(simp only[go_sem];rfl)|rfl) (by first|exact hgl|(simp only[go_sem];exact hgl)) ?_;simp only[hbz,go_sem,↓reduceIte,Bool.false_eq_true])|refine st_tN ?_|refine st_ret ?_)
 all_goals
  simp (disch:=omega) only[AEnd,Tryd.results7,aresK,fin,go_sem,implies_true,true_and,and_true,List.reverse_cons,List.reverse_nil]
  exact ⟨hS.noL,fun b' hb'=>(i3 b' (by omega)).trans (h42 b' hb'),fun l' r hl1=>by show g.lp l'=_;rw [i2];exact h52 l' r hl1,ansB (h:=h) (g:=g) (R:=fun v=>v=.tup [.lst 1 ((whN t (cls c) (gp t.gs G) st t.rooms.length).map iv),.bool (someB t (cls c) (gp t.gs G) (-1) st),.int .i64 0]) (hS.weak (by omega)) rfl⟩
end Go.Proofs.YtoafigpikgigaaaDoor

namespace Go.Proofs.YtoafigpikgigaaaDoor
open Go.Av
attribute [local irreducible] thenA blockA awp awpOps awpD awp1
attribute [local go_sem_proc] Nat.reduceAdd Nat.reduceMul Nat.reduceEqDiff Nat.reduceBEq Nat.reduceLeDiff
attribute [local go_sem_proc ↓] reduceIte
attribute [local go_sem] if_yes if_no
set_option maxHeartbeats 8000000
set_option maxRecDepth 20000
theorem ints_stR (f:Nat→Int):ints (stR f)=some ((List.range 12).map fun i=>(IntKind.i64,f i)):=rfl
theorem stR_neq (f:Nat→Int) (i:Nat) (v:Int) (hi:i < 12) (b:Bool) (h:b=!decide (f i=v)):aeql 12 (fun b=>!b) (ints (stR f)) (ints (stR (upd f i v)))=some (.bool b):=by
 rw [ints_stR,ints_stR,h]
 unfold aeql
 dsimp only
 rw [if_pos ⟨by simp,by simp⟩]
 have:((List.range 12).map (fun i=>(IntKind.i64,f i))=(List.range 12).map (fun j=>(IntKind.i64,upd f i v j))) ↔ f i=v:=by
  constructor
  ·intro e
   have:=congrArg (fun l=>l[i]?) e
   simp only[List.getElem?_map,List.getElem?_range hi,Option.map_some,Option.some.injEq,Prod.mk.injEq,true_and,upd_same] at this
   exact this
  ·intro e
   rw [show upd f i v=f from upd_self e]
 simp only[this]
def undV (t:Tw) (s:List Int):AV:=match und t s with
 | some i=>.tup [.int .i64 ((i:Nat):Int),.bool true]
 | none=>.tup [.int .i64 0,.bool false]
theorem und_some {t:Tw} {s:List Int} {i:Nat} (hi:i < t.sts.length) (h0:elt s i=0) (h:∀ j,j < i→¬ elt s j=0):und t s=some i:=by
 unfold und
 rw [List.find?_eq_some_iff_getElem]
 refine ⟨decide_eq_true h0,i,by rw [List.length_range];exact hi,by rw [List.getElem_range],fun j hj=>?_⟩
 rw [List.getElem_range]
 simp only[Bool.not_eq_true',decide_eq_false_iff_not]
 exact h j hj
theorem und_none {t:Tw} {s:List Int} (h:∀ j,j < t.sts.length→¬ elt s j=0):und t s=none:=by
 unfold und
 rw [List.find?_eq_none]
 intro j hj
 simp only[decide_eq_true_eq]
 exact h j (List.mem_range.1 hj)
theorem c48 (t:Tw) (s:List Int) (hsn:t.sts.length≤12) (hv:∀ i,i < t.sts.length→elt s i=0 ∨ elt s i=1 ∨ elt s i=2):Pure Tryd.prog 48 [.agg (stR (elt s)),t.av] (fun v=>v=undV t s):=by
 intro h
 have ht0:t.av=.agg t.cells:=rfl
 refine ACalls.forget (ACalls.of tab mixed Tryd.call48 Tryd.func48 rfl (fi:=⟨27,[],[2,3],none,[(4,[0,0,0,6,15,31,63,63,63,447,1023,2047],[(0,true),(1,true),(2,false),(3,false),(4,false),(5,false),(6,true),(7,true),(8,false),(9,false),(10,false),(11,false)])]⟩) rfl rfl (Nat.le_of_ble_eq_true rfl) (by decide) ?_)
 unfold startA
 rw [ht0]
 unfold Tw.cells
 repeat' (first|refine st_seq_reg rfl (by first|(simp only[go_sem,length_map];rfl)|rfl) (by first|(simp only[go_sem,length_map];rfl)|rfl) ?_|refine st_reg rfl (by first|(simp only[go_sem,length_map];rfl)|rfl) (by first|(simp only[go_sem,length_map];rfl)|rfl) ?_|refine st_seq_draw rfl (by first|(simp only[go_sem,length_map];rfl)|rfl) (by first|(simp only[go_sem,length_map];rfl)|rfl) ?_|refine st_draw rfl (by first|(simp only[go_sem,length_map];rfl)|rfl) (by first|(simp only[go_sem,length_map];rfl)|rfl) ?_|refine st_op ?_|refine st_det rfl (by simp (disch:=omega) only[go_sem,wr_i64,length_map];rfl) ?_|refine st_dop rfl ?_|refine st_loc rfl (by simp (disch:=omega) only[go_sem,wr_i64,length_map];rfl) ?_|refine st_heap rfl (by simp (disch:=omega) only[go_sem,wr_i64,length_map];rfl) ?_|refine st_gT rfl rfl rfl ?_|refine st_gF rfl rfl rfl ?_|refine st_dgT rfl rfl rfl rfl ?_|refine st_dgF rfl rfl rfl ?_|(refine st_gS rfl rfl ?_ ?_ <;> intro hg <;> (try simp only[dcT,dcF,bnT,bnF] at hg))|(refine st_dgS rfl rfl ?_ ?_ <;> intro hg <;> (try simp only[dcT,dcF,bnT,bnF] at hg))|refine st_condT rfl ?_|refine st_condF rfl ?_|(refine st_condS rfl ?_ ?_ <;> intro hg <;> (try simp only[dcT,dcF,bnT,bnF] at hg))|refine st_nil ?_|refine st_dnil ?_|refine st_tN ?_|refine st_seq ?_|refine st_block ?_|refine st_skip ?_|refine st_exit ?_|refine st_ret ?_|refine st_tE ?_|refine st_tR ?_|refine st_bN ?_|refine st_bR ?_|refine st_bH ?_|refine st_bM rfl ?_)
 refine st_loopC (α:=Nat) tab mixed [] [] (by repeat (first|exact trivial|refine ⟨rfl,?_⟩)) [] [] (by repeat (first|exact trivial|refine ⟨rfl,?_⟩)) (fun i=>[(10,.int .i64 (i:Nat))]) [(2,_),(3,_),(9,_)] (fun _=>[]) [] (fun i=>i≤t.sts.length∧∀ j,j < i→¬ elt s j=0) (fun i=>t.sts.length - i) (by decide) 0 ⟨Nat.zero_le _,fun j hj=>absurd hj (Nat.not_lt_zero _)⟩ (by (try simp only[go_sem]);repeat' (first|exact trivial|refine And.intro ?_ ?_|rfl|(simp (disch:=omega) only[go_sem,if_yes,if_no,if_no];rfl)|(simp (disch:=omega) only[go_sem,if_yes,if_no,if_no]))) (by (try simp only[go_sem]);repeat' (first|exact trivial|refine And.intro ?_ ?_|rfl|(simp (disch:=omega) only[go_sem,if_yes,if_no,if_no];rfl)|(simp (disch:=omega) only[go_sem,if_yes,if_no,if_no]))) (by first|(simp only[go_sem];rfl)|rfl) (by intro n;simp only[go_sem];rfl) ?_
 rintro i c ⟨i1,i2⟩ hc
 simp only[go_sem]
 by_cases hi:i < t.sts.length
 case neg =>
  obtain rfl:i=t.sts.length:=by omega
  repeat' (first|refine st_seq_reg rfl (by first|(simp only[go_sem];rfl)|rfl) (by first|(simp only[go_sem];rfl)|rfl) ?_|refine st_reg rfl (by first|(simp only[go_sem];rfl)|rfl) (by first|(simp only[go_sem];rfl)|rfl) ?_|refine st_seq_draw rfl (by first|(simp only[go_sem];rfl)|rfl) (by first|(simp only[go_sem];rfl)|rfl) ?_|refine st_draw rfl (by first|(simp only[go_sem];rfl)|rfl) (by first|(simp only[go_sem];rfl)|rfl) ?_|refine st_op ?_|refine st_det rfl (by simp (disch:=omega) only[go_sem,wr_i64];rfl) ?_|refine st_dop rfl ?_|refine st_loc rfl (by simp (disch:=omega) only[go_sem,wr_i64];rfl) ?_|refine st_heap rfl (by simp (disch:=omega) only[go_sem,wr_i64];rfl) ?_|refine st_gT rfl rfl rfl ?_|refine st_gF rfl rfl rfl ?_|refine st_dgT rfl rfl rfl rfl ?_|refine st_dgF rfl rfl rfl ?_|(refine st_gS rfl rfl ?_ ?_ <;> intro hg <;> (try simp only[dcT,dcF,bnT,bnF] at hg))|(refine st_dgS rfl rfl ?_ ?_ <;> intro hg <;> (try simp only[dcT,dcF,bnT,bnF] at hg))|refine st_condT rfl ?_|refine st_condF rfl ?_|(refine st_condS rfl ?_ ?_ <;> intro hg <;> (try simp only[dcT,dcF,bnT,bnF] at hg))|refine st_nil ?_|refine st_dnil ?_|refine st_tN ?_|refine st_seq ?_|refine st_block ?_|refine st_skip ?_|refine st_exit ?_|refine st_ret ?_|refine st_tE ?_|refine st_tR ?_|refine st_bN ?_|refine st_bR ?_|refine st_bH ?_|refine st_bM rfl ?_)
  all_goals try (exfalso;omega)
  simp (disch:=omega) only[AEnd,Tryd.results48,aresK,fin,go_sem,implies_true,true_and,and_true,List.reverse_cons,List.reverse_nil]
  unfold undV;rw [und_none i2]
 have w1:=c34 (elt s) (i:Nat) 1 ⟨by omega,by omega⟩
 have w2:=c34 (elt s) (i:Nat) 2 ⟨by omega,by omega⟩
 simp only[toNat_cast] at w1 w2
 by_cases h0:elt s i=0
 ·have n1:=stR_neq (elt s) i 1 (by omega) true (by rw [h0];rfl)
  have n2:=stR_neq (elt s) i 2 (by omega) true (by rw [h0];rfl)
  repeat' (first|refine st_seq_reg rfl (by first|(simp only[go_sem,n1,n2];rfl)|rfl) (by first|(simp only[go_sem,n1,n2];rfl)|rfl) ?_|refine st_reg rfl (by first|(simp only[go_sem,n1,n2];rfl)|rfl) (by first|(simp only[go_sem,n1,n2];rfl)|rfl) ?_|refine st_seq_draw rfl (by first|(simp only[go_sem,n1,n2];rfl)|rfl) (by first|(simp only[go_sem,n1,n2];rfl)|rfl) ?_|refine st_draw rfl (by first|(simp only[go_sem,n1,n2];rfl)|rfl) (by first|(simp only[go_sem,n1,n2];rfl)|rfl) ?_|refine st_op ?_|refine st_det rfl (by simp (disch:=omega) only[go_sem,wr_i64,n1,n2];rfl) ?_|refine st_dop rfl ?_|refine st_loc rfl (by simp (disch:=omega) only[go_sem,wr_i64,n1,n2];rfl) ?_|refine st_heap rfl (by simp (disch:=omega) only[go_sem,wr_i64,n1,n2];rfl) ?_|(refine st_pureE (by first|(simp (disch:=omega) only[go_sem,n1,n2];rfl)|rfl) rfl (w1) (by first|(simp only[go_sem,n1,n2];rfl)|rfl) (by intro n;first|(simp (disch:=omega) only[go_sem];rfl)|rfl) ?_;intro n hn)|(refine st_pureE (by first|(simp (disch:=omega) only[go_sem,n1,n2];rfl)|rfl) rfl (w2) (by first|(simp only[go_sem,n1,n2];rfl)|rfl) (by intro n;first|(simp (disch:=omega) only[go_sem];rfl)|rfl) ?_;intro n hn)|refine st_gT rfl rfl rfl ?_|refine st_gF rfl rfl rfl ?_|refine st_dgT rfl rfl rfl rfl ?_|refine st_dgF rfl rfl rfl ?_|(refine st_gS rfl rfl ?_ ?_ <;> intro hg <;> (try simp only[dcT,dcF,bnT,bnF] at hg))|(refine st_dgS rfl rfl ?_ ?_ <;> intro hg <;> (try simp only[dcT,dcF,bnT,bnF] at hg))|refine st_condT rfl ?_|refine st_condF rfl ?_|(refine st_condS rfl ?_ ?_ <;> intro hg <;> (try simp only[dcT,dcF,bnT,bnF] at hg))|refine st_nil ?_|refine st_dnil ?_|refine st_tN ?_|refine st_seq ?_|refine st_block ?_|refine st_skip ?_|refine st_exit ?_|refine st_ret ?_|refine st_tE ?_|refine st_tR ?_|refine st_bN ?_|refine st_bR ?_|refine st_bH ?_|refine st_bM rfl ?_)
  all_goals try (exfalso;omega)
  simp (disch:=omega) only[AEnd,Tryd.results48,aresK,fin,go_sem,implies_true,true_and,and_true,List.reverse_cons,List.reverse_nil]
  unfold undV;rw [und_some hi h0 i2]
 ·have hnx:∀ j,j < i+1→¬ elt s j=0:=fun j hj=>by
   by_cases e:j=i
   ·rw [e];exact h0
   ·exact i2 j (by omega)
  by_cases h1:elt s i=1
  ·have n1:=stR_neq (elt s) i 1 (by omega) false (by rw [h1];rfl)
   repeat' (first|refine st_seq_reg rfl (by first|(simp only[go_sem,n1];rfl)|rfl) (by first|(simp only[go_sem,n1];rfl)|rfl) ?_|refine st_reg rfl (by first|(simp only[go_sem,n1];rfl)|rfl) (by first|(simp only[go_sem,n1];rfl)|rfl) ?_|refine st_seq_draw rfl (by first|(simp only[go_sem,n1];rfl)|rfl) (by first|(simp only[go_sem,n1];rfl)|rfl) ?_|refine st_draw rfl (by first|(simp only[go_sem,n1];rfl)|rfl) (by first|(simp only[go_sem,n1];rfl)|rfl) ?_|refine st_op ?_|refine st_det rfl (by simp (disch:=omega) only[go_sem,wr_i64,n1];rfl) ?_|refine st_dop rfl ?_|refine st_loc rfl (by simp (disch:=omega) only[go_sem,wr_i64,n1];rfl) ?_|refine st_heap rfl (by simp (disch:=omega) only[go_sem,wr_i64,n1];rfl) ?_|(refine st_pureE (by first|(simp (disch:=omega) only[go_sem,n1];rfl)|rfl) rfl (w1) (by first|(simp only[go_sem,n1];rfl)|rfl) (by intro n;first|(simp (disch:=omega) only[go_sem];rfl)|rfl) ?_;intro n hn)|(refine st_pureE (by first|(simp (disch:=omega) only[go_sem,n1];rfl)|rfl) rfl (w2) (by first|(simp only[go_sem,n1];rfl)|rfl) (by intro n;first|(simp (disch:=omega) only[go_sem];rfl)|rfl) ?_;intro n hn)|refine st_gT rfl rfl rfl ?_|refine st_gF rfl rfl rfl ?_|refine st_dgT rfl rfl rfl rfl ?_|refine st_dgF rfl rfl rfl ?_|(refine st_gS rfl rfl ?_ ?_ <;> intro hg <;> (try simp only[dcT,dcF,bnT,bnF] at hg))|(refine st_dgS rfl rfl ?_ ?_ <;> intro hg <;> (try simp only[dcT,dcF,bnT,bnF] at hg))|refine st_condT rfl ?_|refine st_condF rfl ?_|(refine st_condS rfl ?_ ?_ <;> intro hg <;> (try simp only[dcT,dcF,bnT,bnF] at hg))|refine st_nil ?_|refine st_dnil ?_|refine st_tN ?_|refine st_seq ?_|refine st_block ?_|refine st_skip ?_|refine st_exit ?_|refine st_ret ?_|refine st_tE ?_|refine st_tR ?_|refine st_bN ?_|refine st_bR ?_|refine st_bH ?_|refine st_bM rfl ?_)
   all_goals try (exfalso;omega)
   refine ⟨i+1,⟨by show i+1≤_;omega,hnx⟩,by show t.sts.length - (i+1) < t.sts.length - i;omega,(by repeat' (first|exact trivial|refine And.intro ?_ ?_|rfl|(simp (disch:=omega) only[go_sem,if_yes,if_no,if_no];rfl)|(simp (disch:=omega) only[go_sem,if_yes,if_no,if_no]))),(by repeat' (first|exact trivial|refine And.intro ?_ ?_|rfl|(simp (disch:=omega) only[go_sem,if_yes,if_no,if_no];rfl)|(simp (disch:=omega) only[go_sem,if_yes,if_no,if_no]))),rfl,(by first|exact HOld.of _ (by omega)|exact HOld.put _ _ _ (by omega))⟩
  ·have h2:elt s i=2:=by have:=hv i hi;omega
   have n1:=stR_neq (elt s) i 1 (by omega) true (by rw [h2];rfl)
   have n2:=stR_neq (elt s) i 2 (by omega) false (by rw [h2];rfl)
   repeat' (first|refine st_seq_reg rfl (by first|(simp only[go_sem,n1,n2];rfl)|rfl) (by first|(simp only[go_sem,n1,n2];rfl)|rfl) ?_|refine st_reg rfl (by first|(simp only[go_sem,n1,n2];rfl)|rfl) (by first|(simp only[go_sem,n1,n2];rfl)|rfl) ?_|refine st_seq_draw rfl (by first|(simp only[go_sem,n1,n2];rfl)|rfl) (by first|(simp only[go_sem,n1,n2];rfl)|rfl) ?_|refine st_draw rfl (by first|(simp only[go_sem,n1,n2];rfl)|rfl) (by first|(simp only[go_sem,n1,n2];rfl)|rfl) ?_|refine st_op ?_|refine st_det rfl (by simp (disch:=omega) only[go_sem,wr_i64,n1,n2];rfl) ?_|refine st_dop rfl ?_|refine st_loc rfl (by simp (disch:=omega) only[go_sem,wr_i64,n1,n2];rfl) ?_|refine st_heap rfl (by simp (disch:=omega) only[go_sem,wr_i64,n1,n2];rfl) ?_|(refine st_pureE (by first|(simp (disch:=omega) only[go_sem,n1,n2];rfl)|rfl) rfl (w1) (by first|(simp only[go_sem,n1,n2];rfl)|rfl) (by intro n;first|(simp (disch:=omega) only[go_sem];rfl)|rfl) ?_;intro n hn)|(refine st_pureE (by first|(simp (disch:=omega) only[go_sem,n1,n2];rfl)|rfl) rfl (w2) (by first|(simp only[go_sem,n1,n2];rfl)|rfl) (by intro n;first|(simp (disch:=omega) only[go_sem];rfl)|rfl) ?_;intro n hn)|refine st_gT rfl rfl rfl ?_|refine st_gF rfl rfl rfl ?_|refine st_dgT rfl rfl rfl rfl ?_|refine st_dgF rfl rfl rfl ?_|(refine st_gS rfl rfl ?_ ?_ <;> intro hg <;> (try simp only[dcT,dcF,bnT,bnF] at hg))|(refine st_dgS rfl rfl ?_ ?_ <;> intro hg <;> (try simp only[dcT,dcF,bnT,bnF] at hg))|refine st_condT rfl ?_|refine st_condF rfl ?_|(refine st_condS rfl ?_ ?_ <;> intro hg <;> (try simp only[dcT,dcF,bnT,bnF] at hg))|refine st_nil ?_|refine st_dnil ?_|refine st_tN ?_|refine st_seq ?_|refine st_block ?_|refine st_skip ?_|refine st_exit ?_|refine st_ret ?_|refine st_tE ?_|refine st_tR ?_|refine st_bN ?_|refine st_bR ?_|refine st_bH ?_|refine st_bM rfl ?_)
   all_goals try (exfalso;omega)
   refine ⟨i+1,⟨by show i+1≤_;omega,hnx⟩,by show t.sts.length - (i+1) < t.sts.length - i;omega,(by repeat' (first|exact trivial|refine And.intro ?_ ?_|rfl|(simp (disch:=omega) only[go_sem,if_yes,if_no,if_no];rfl)|(simp (disch:=omega) only[go_sem,if_yes,if_no,if_no]))),(by repeat' (first|exact trivial|refine And.intro ?_ ?_|rfl|(simp (disch:=omega) only[go_sem,if_yes,if_no,if_no];rfl)|(simp (disch:=omega) only[go_sem,if_yes,if_no,if_no]))),rfl,(by first|exact HOld.of _ (by omega)|exact HOld.put _ _ _ (by omega))⟩
end Go.Proofs.YtoafigpikgigaaaDoor

namespace Go.Proofs.YtoafigpikgigaaaDoor
open Go.Av
set_option maxRecDepth 20000
theorem prv_len (t:Tw) (most:Int):∀ (k:Nat) (s:List Int),(prv t most k s).length+1≤2 ^ k
 | 0,_=>by show 0+1≤1;omega
 | k+1,s=>by
  have h2:(2:Nat) ^ (k+1)=2 ^ k * 2:=Nat.pow_succ ..
  have hk:1≤(2:Nat) ^ k:=Nat.one_le_two_pow
  show (if most < shN s then [⟨3,0,0,0⟩] else match (crL t (elt s)).head? with
   | some x=>[⟨2,0,x.sq,x.step⟩]
   | none=>match und t s with
    | none=>[]
    | some i=>(⟨1,(i:Nat),0,0⟩:Rn) :: (prv t most k (s.set i 1) ++ prv t most k (s.set i 2))).length+1≤2 ^ (k+1)
  split
  ·simp only[List.length_cons,List.length_nil];omega
  ·split
   ·simp only[List.length_cons,List.length_nil];omega
   ·split
    ·simp only[List.length_nil];omega
    ·rename_i i _
     have a:=prv_len t most k (s.set i 1)
     have b:=prv_len t most k (s.set i 2)
     simp only[List.length_cons,List.length_append];omega
theorem prv_many {t:Tw} {most:Int} {k:Nat} {s:List Int} (h:most < shN s):prv t most (k+1) s=[⟨3,0,0,0⟩]:=by
 show (if most < shN s then _ else _)=_;rw [if_pos h]
theorem prv_full {t:Tw} {most:Int} {k:Nat} {s:List Int} (h:¬ most < shN s) {x:Cr} {l:List Cr} (hx:crL t (elt s)=x :: l):prv t most (k+1) s=[⟨2,0,x.sq,x.step⟩]:=by
 show (if most < shN s then _ else match (crL t (elt s)).head? with|some x=>_|none=>_)=_;rw [if_neg h,hx];rfl
theorem prv_split {t:Tw} {most:Int} {k:Nat} {s:List Int} (h:¬ most < shN s) (hx:crL t (elt s)=[]) {i:Nat} (hu:und t s=some i):prv t most (k+1) s=⟨1,(i:Nat),0,0⟩ :: (prv t most k (s.set i 1) ++ prv t most k (s.set i 2)):=by
 show (if most < shN s then _ else match (crL t (elt s)).head? with|some x=>_|none=>match und t s with|none=>_|some i=>_)=_;rw [if_neg h,hx,hu];rfl
end Go.Proofs.YtoafigpikgigaaaDoor
