/- Contracts of functions that the claim reaches: what each call gives, told in our own logic. Conditions: those of each theorem. -/
import Derived.Test.YtoafigpikgigaaaDoorBaseD
import Derived.Test.YtoafigpikgigaaaDoorV10
import Derived.Test.YtoafigpikgigaaaDoorQ19
import Derived.Test.YtoafigpikgigaaaDoorQ6
import Derived.Test.YtoafigpikgigaaaDoorV8a
import Derived.Test.YtoafigpikgigaaaDoorQ9
import Derived.Test.YtoafigpikgigaaaDoorQ15
open Nat (reduceAdd reduceMul reduceEqDiff reduceLeDiff)
open List (length_map)
set_option linter.all false
set_option linter.unusedSimpArgs false
set_option linter.unusedVariables false
namespace Go.Proofs.YtoafigpikgigaaaDoor
open Go.Av
attribute [local irreducible] thenA blockA awp awpOps awpD awp1
attribute [local go_sem_proc] reduceAdd reduceMul reduceEqDiff Nat.reduceBEq reduceLeDiff
attribute [local go_sem_proc ↓] reduceIte
attribute [local go_sem] if_yes if_no
set_option maxHeartbeats 8000000
set_option maxRecDepth 20000
def pcap2 (b:Nat × Nat) (t:Tw) (most:Int):List AV:=[.ptr b 0 0,.iptr [.int .i64 most] 0,.iptr t.cells 0]
@[go_sem] theorem pknot2 (b:Nat × Nat) (t:Tw) (most:Int) (d:Nat):knot (.func 46) (pcap2 b t most) (d+1)=.iptr [.fn (.func 46) [] [.ptr b 0 0,.iptr [.int .i64 most] 0,.iptr t.cells 0,knot (.func 46) (pcap2 b t most) d]] 0:=rfl
def W94 (t:Tw) (most:Int) (b:Nat × Nat) (c0 k d:Nat) (s:List Int) (q:List Rn) (h:AH):Prop :=
 ACalls Tryd.prog 46 [.agg (stR (elt s)),.ptr b 0 0,.iptr [.int .i64 most] 0,.iptr t.cells 0,knot (.func 46) (pcap2 b t most) d] h
  (fun r h'=>r=.bool true∧h.clk≤h'.clk∧h'.lp=h.lp∧(∀ b':Bid,b' ≠ b→b'.1 < c0→h'.at_ b'=h.at_ b')∧∃ v',h'.at_ b=some ⟨1,[[v']]⟩∧SlA c0 h' v' 4 ((q ++ prv t most k s).map Rn.row))
structure Ok94 (t:Tw) (most:Int) (s:List Int):Prop where
 len:s.length=t.sts.length
 val:∀ i,i < t.sts.length→elt s i=0 ∨ elt s i=1 ∨ elt s i=2
theorem w94_many (t:Tw) (most:Int) (b:Nat × Nat) (c0 k d:Nat) (s:List Int) (q:List Rn) (h:AH) (v:AV) (hT:TwOk t) (hs:Ok94 t most s) (hq:q.length < 4999) (hbc:b.1 < c0) (hch:c0≤h.clk) (hb:h.at_ b=some ⟨1,[[v]]⟩) (hS:SlA c0 h v 4 (q.map Rn.row)) (hm:most < shN s):W94 t most b c0 (k+1) d s q h:=by
 have hsn:=hT.sn
 have hsl:=hs.len
 have k70:=c33 (elt s)
 rw [shN_eq s (by omega)] at k70
 have hnc:=hS.noL
 have hcc:=hS.cell
 have hal:alen (tt 57) v=some (q.length:Int):=by
  rcases hS with ⟨e1,e⟩|⟨b3,e1,_⟩
  ·have e2:q=[]:=by simpa using e
   rw [e1,e2];rfl
  ·rw [e1,length_map];rfl
 unfold W94
 rw [prv_many hm]
 refine ACalls.of tab mixed Tryd.call46 Tryd.func46 rfl (fi:=⟨62,[7],[5,20,35,48],none,[(3,[0,1,0,7],[(0,true),(2,true),(1,false),(3,false)]),(14,[0,0,0,6,15,31,63,63,63,447,1023,2047,4095],[(0,true),(1,true),(2,false),(3,false),(4,false),(5,false),(6,true),(7,true),(8,false),(9,false),(10,false),(11,false),(12,false)])]⟩) rfl rfl (Nat.le_of_ble_eq_true rfl) (by decide) ?_
 unfold startA
 unfold Tw.cells
 repeat' (first|refine st_seq_reg rfl (by first|(simp only[go_sem,length_map,hb,hal];rfl)|rfl) (by first|(simp only[go_sem,length_map,hb,hal];rfl)|rfl) ?_|refine st_seq_draw rfl (by first|(simp only[go_sem,length_map,hb,hal];rfl)|rfl) (by first|(simp only[go_sem,length_map,hb,hal];rfl)|rfl) ?_|refine st_op ?_|refine st_det rfl (by simp (disch:=omega) only[go_sem,wr_i64,length_map,hb,hal];rfl) ?_|refine st_dop rfl ?_|(refine st_pureE (by first|(simp (disch:=omega) only[go_sem,length_map,hb,hal];rfl)|rfl) rfl (k70) (by first|(simp only[go_sem,length_map,hb,hal];rfl)|rfl) (by intro n;first|(simp (disch:=omega) only[go_sem];rfl)|rfl) ?_;intro n hn)|(refine st_appS (by intro h id x y;simp only[go_sem];rfl) rfl (by simp only[go_sem,length_map,hb,hal];rfl) (by first|(simp only[go_sem,length_map,hb,hal];rfl)|rfl) (by decide) hS (fun _ _ _=>rfl) (by omega) (by simp only[length_map,List.length_cons,List.length_nil,big,length_map,hb,hal];omega) (by omega) (by omega) ?_;intro v' g' hA)|(refine st_condS rfl ?_ ?_ <;> intro hg <;> (try simp only[dcT,dcF,bnT,bnF] at hg))|refine st_nil ?_|refine st_dnil ?_|refine st_tN ?_|refine st_seq ?_|refine st_skip ?_|refine st_ret ?_|refine st_tR ?_)
 all_goals try (exfalso;omega)
 have hnv:=hA.nol
 have hcl:=hA.sl.cell
 have hcv:=cells_one hcl
 have hgb:=(hA.old b hbc)
 simp only[go_sem] at hgb
 rw [hb] at hgb
 repeat' (first|refine st_seq_reg rfl (by first|(simp only[go_sem,hnv,hcl,hcv,hgb];rfl)|rfl) (by first|(simp only[go_sem,hnv,hcl,hcv,hgb];rfl)|rfl) ?_|refine st_op ?_|refine st_det rfl (by simp (disch:=omega) only[go_sem,wr_i64,hnv,hcl,hcv,hgb];rfl) ?_|refine st_store (by simp (disch:=omega) only[go_sem,wr_i64,hnv,hcl,hcv,hgb];rfl) ?_|refine st_nil ?_|refine st_ret ?_|refine st_tR ?_)
 simp (disch:=omega) only[AEnd,Tryd.results46,aresK,fin,go_sem,implies_true,true_and,and_true,List.reverse_cons,List.reverse_nil]
 exact ⟨by omega,hA.lp,fun b' h1 h2=>by rw [if_neg h1];exact hA.old b' h2,v',rfl,by rw [List.map_append];exact hA.sl.to (fun b1 m e h1 h2=>by simp only[go_sem];rw [if_neg (fun e=>by rw [e] at h1;omega)]) (by simp only[go_sem];omega)⟩
theorem w94_full (t:Tw) (most:Int) (b:Nat × Nat) (c0 k d:Nat) (s:List Int) (q:List Rn) (h:AH) (v:AV) (hT:TwOk t) (hs:Ok94 t most s) (hq:q.length < 4999) (hbc:b.1 < c0) (hch:c0≤h.clk) (hb:h.at_ b=some ⟨1,[[v]]⟩) (hS:SlA c0 h v 4 (q.map Rn.row)) (hm:¬ most < shN s) {x:Cr} {l:List Cr} (hx:crL t (elt s)=x :: l):W94 t most b c0 (k+1) d s q h:=by
 have hsn:=hT.sn
 have hsl:=hs.len
 have k70:=c33 (elt s)
 rw [shN_eq s (by omega)] at k70
 have k95:=c47 t (elt s) hT
 have hnc:=hS.noL
 have hcc:=hS.cell
 have hal:alen (tt 57) v=some (q.length:Int):=by
  rcases hS with ⟨e1,e⟩|⟨b3,e1,_⟩
  ·have e2:q=[]:=by simpa using e
   rw [e1,e2];rfl
  ·rw [e1,length_map];rfl
 have hV:crV t (elt s)=.tup [.agg x.row,.bool true]:=by unfold crV;rw [hx]
 rw [hV] at k95
 unfold W94
 rw [prv_full hm hx]
 refine ACalls.of tab mixed Tryd.call46 Tryd.func46 rfl (fi:=⟨62,[7],[5,20,35,48],none,[(3,[0,1,0,7],[(0,true),(2,true),(1,false),(3,false)]),(14,[0,0,0,6,15,31,63,63,63,447,1023,2047,4095],[(0,true),(1,true),(2,false),(3,false),(4,false),(5,false),(6,true),(7,true),(8,false),(9,false),(10,false),(11,false),(12,false)])]⟩) rfl rfl (Nat.le_of_ble_eq_true rfl) (by decide) ?_
 unfold startA
 unfold Tw.cells
 repeat' (first|refine st_seq_reg rfl (by first|(simp only[go_sem,length_map,hb,hal];rfl)|rfl) (by first|(simp only[go_sem,length_map,hb,hal];rfl)|rfl) ?_|refine st_seq_draw rfl (by first|(simp only[go_sem,length_map,hb,hal];rfl)|rfl) (by first|(simp only[go_sem,length_map,hb,hal];rfl)|rfl) ?_|refine st_op ?_|refine st_det rfl (by simp (disch:=omega) only[go_sem,wr_i64,length_map,hb,hal];rfl) ?_|refine st_dop rfl ?_|refine st_loc rfl (by simp (disch:=omega) only[go_sem,wr_i64,length_map,hb,hal];rfl) ?_|refine st_store (by simp (disch:=omega) only[go_sem,wr_i64,length_map,hb,hal];rfl) ?_|(refine st_pureE (by first|(simp (disch:=omega) only[go_sem,length_map,hb,hal];rfl)|rfl) rfl (k70) (by first|(simp only[go_sem,length_map,hb,hal];rfl)|rfl) (by intro n;first|(simp (disch:=omega) only[go_sem];rfl)|rfl) ?_;intro n hn)|(refine st_pureE (by first|(simp (disch:=omega) only[go_sem,length_map,hb,hal];rfl)|rfl) rfl (k95) (by first|(simp only[go_sem,length_map,hb,hal];rfl)|rfl) (by intro n;first|(simp (disch:=omega) only[go_sem];rfl)|rfl) ?_;intro n hn)|(refine st_appS (by intro h id x y;simp only[go_sem];rfl) rfl (by simp only[go_sem,length_map,hb,hal];rfl) (by first|(simp only[go_sem,length_map,hb,hal];rfl)|rfl) (by decide) hS (fun _ _ _=>rfl) (by omega) (by simp only[length_map,List.length_cons,List.length_nil,big,length_map,hb,hal];omega) (by omega) (by omega) ?_;intro v' g' hA)|refine st_condT rfl ?_|(refine st_condS rfl ?_ ?_ <;> intro hg <;> (try simp only[dcT,dcF,bnT,bnF] at hg))|refine st_nil ?_|refine st_dnil ?_|refine st_tN ?_|refine st_seq ?_|refine st_skip ?_|refine st_ret ?_|refine st_tR ?_)
 all_goals try (exfalso;omega)
 have hnv:=hA.nol
 have hcl:=hA.sl.cell
 have hcv:=cells_one hcl
 have hgb:=(hA.old b hbc)
 simp only[go_sem] at hgb
 rw [hb] at hgb
 repeat' (first|refine st_seq_reg rfl (by first|(simp only[go_sem,hnv,hcl,hcv,hgb];rfl)|rfl) (by first|(simp only[go_sem,hnv,hcl,hcv,hgb];rfl)|rfl) ?_|refine st_op ?_|refine st_det rfl (by simp (disch:=omega) only[go_sem,wr_i64,hnv,hcl,hcv,hgb];rfl) ?_|refine st_store (by simp (disch:=omega) only[go_sem,wr_i64,hnv,hcl,hcv,hgb];rfl) ?_|refine st_nil ?_|refine st_ret ?_|refine st_tR ?_)
 simp (disch:=omega) only[AEnd,Tryd.results46,aresK,fin,go_sem,implies_true,true_and,and_true,List.reverse_cons,List.reverse_nil]
 exact ⟨by omega,hA.lp,fun b' h1 h2=>by rw [if_neg h1];exact hA.old b' h2,v',rfl,by rw [List.map_append];exact hA.sl.to (fun b1 m e h1 h2=>by simp only[go_sem];rw [if_neg (fun e=>by rw [e] at h1;omega)]) (by simp only[go_sem];omega)⟩
theorem w94_split (t:Tw) (most:Int) (b:Nat × Nat) (c0 k d:Nat) (s:List Int) (q:List Rn) (h:AH) (v:AV) (hT:TwOk t) (hs:Ok94 t most s) (hq:q.length < 4999) (hbc:b.1 < c0) (hch:c0≤h.clk) (hb:h.at_ b=some ⟨1,[[v]]⟩) (hS:SlA c0 h v 4 (q.map Rn.row)) (hm:¬ most < shN s) (hx:crL t (elt s)=[]) {i:Nat} (hi:i < t.sts.length) (hu:und t s=some i) (hqk:q.length+2 ^ (k+1) < 4999)
  (ih:∀ (w:Int) (q':List Rn) (v':AV) (g:AH),(w=1 ∨ w=2)→q'.length+2 ^ k < 4999→c0≤g.clk→g.at_ b=some ⟨1,[[v']]⟩→SlA c0 g v' 4 (q'.map Rn.row)→W94 t most b c0 k d (s.set i w) q' g):W94 t most b c0 (k+1) (d+1) s q h:=by
 have hsn:=hT.sn
 have hsl:=hs.len
 have k70:=c33 (elt s)
 rw [shN_eq s (by omega)] at k70
 have k95:=c47 t (elt s) hT
 have hnc:=hS.noL
 have hcc:=hS.cell
 have hal:alen (tt 57) v=some (q.length:Int):=by
  rcases hS with ⟨e1,e⟩|⟨b3,e1,_⟩
  ·have e2:q=[]:=by simpa using e
   rw [e1,e2];rfl
  ·rw [e1,length_map];rfl
 have hV:crV t (elt s)=.tup [.agg [.int .i64 0,.int .i64 0,.int .i64 0],.bool false]:=by unfold crV;rw [hx]
 rw [hV] at k95
 have k96:=c48 t s hsn hs.val
 have hU:undV t s=.tup [.int .i64 ((i:Nat):Int),.bool true]:=by unfold undV;rw [hu]
 rw [hU] at k96
 have w1:=c34 (elt s) (i:Nat) 1 ⟨by omega,by omega⟩
 have w2:=c34 (elt s) (i:Nat) 2 ⟨by omega,by omega⟩
 simp only[toNat_cast] at w1 w2
 rw [← elt_set s _ 1 (by omega)] at w1
 rw [← elt_set s _ 2 (by omega)] at w2
 have hpl:=prv_len t most k (s.set i 1)
 have h2k:(2:Nat) ^ (k+1)=2 ^ k * 2:=Nat.pow_succ ..
 have hqc:∀ r:Rn,(q ++ [r]).length=q.length+1:=fun r=>by simp
 unfold W94 at ih ⊢
 rw [prv_split hm hx hu]
 refine ACalls.of tab mixed Tryd.call46 Tryd.func46 rfl (fi:=⟨62,[7],[5,20,35,48],none,[(3,[0,1,0,7],[(0,true),(2,true),(1,false),(3,false)]),(14,[0,0,0,6,15,31,63,63,63,447,1023,2047,4095],[(0,true),(1,true),(2,false),(3,false),(4,false),(5,false),(6,true),(7,true),(8,false),(9,false),(10,false),(11,false),(12,false)])]⟩) rfl rfl (Nat.le_of_ble_eq_true rfl) (by decide) ?_
 unfold startA
 unfold Tw.cells
 simp only[go_sem]
 repeat' (first|refine st_seq_reg rfl (by first|(simp only[go_sem,length_map,hb,hal];rfl)|rfl) (by first|(simp only[go_sem,length_map,hb,hal];rfl)|rfl) ?_|refine st_seq_draw rfl (by first|(simp only[go_sem,length_map,hb,hal];rfl)|rfl) (by first|(simp only[go_sem,length_map,hb,hal];rfl)|rfl) ?_|refine st_op ?_|refine st_det rfl (by simp (disch:=omega) only[go_sem,wr_i64,length_map,hb,hal];rfl) ?_|refine st_dop rfl ?_|refine st_loc rfl (by simp (disch:=omega) only[go_sem,wr_i64,length_map,hb,hal];rfl) ?_|refine st_store (by simp (disch:=omega) only[go_sem,wr_i64,length_map,hb,hal];rfl) ?_|(refine st_pureE (by first|(simp (disch:=omega) only[go_sem,length_map,hb,hal];rfl)|rfl) rfl (k70) (by first|(simp only[go_sem,length_map,hb,hal];rfl)|rfl) (by intro n;first|(simp (disch:=omega) only[go_sem];rfl)|rfl) ?_;intro n hn)|(refine st_pureE (by first|(simp (disch:=omega) only[go_sem,length_map,hb,hal];rfl)|rfl) rfl (k95) (by first|(simp only[go_sem,length_map,hb,hal];rfl)|rfl) (by intro n;first|(simp (disch:=omega) only[go_sem];rfl)|rfl) ?_;intro n hn)|(refine st_pureE (by first|(simp (disch:=omega) only[go_sem,length_map,hb,hal];rfl)|rfl) rfl (k96) (by first|(simp only[go_sem,length_map,hb,hal];rfl)|rfl) (by intro n;first|(simp (disch:=omega) only[go_sem];rfl)|rfl) ?_;intro n hn)|(refine st_appS (by intro h id x y;simp only[go_sem];rfl) rfl (by simp only[go_sem,length_map,hb,hal];rfl) (by first|(simp only[go_sem,length_map,hb,hal];rfl)|rfl) (by decide) hS (fun _ _ _=>rfl) (by omega) (by simp only[length_map,List.length_cons,List.length_nil,big,length_map,hb,hal];omega) (by omega) (by omega) ?_;intro v' g' hA)|refine st_condF rfl ?_|(refine st_condS rfl ?_ ?_ <;> intro hg <;> (try simp only[dcT,dcF,bnT,bnF] at hg))|refine st_nil ?_|refine st_dnil ?_|refine st_tN ?_|refine st_seq ?_|refine st_skip ?_|refine st_ret ?_|refine st_tR ?_)
 all_goals try (exfalso;omega)
 have hnv:=hA.nol
 have hcl:=hA.sl.cell
 have hcv:=cells_one hcl
 have hgb:=(hA.old b hbc)
 simp only[go_sem] at hgb
 rw [hb] at hgb
 repeat' (first|refine st_seq_draw rfl (by first|(simp only[go_sem,hnv,hcl,hcv,hgb];rfl)|rfl) (by first|(simp only[go_sem,hnv,hcl,hcv,hgb];rfl)|rfl) ?_|refine st_det rfl (by simp (disch:=omega) only[go_sem,wr_i64,hnv,hcl,hcv,hgb];rfl) ?_|refine st_dop rfl ?_|refine st_store (by simp (disch:=omega) only[go_sem,wr_i64,hnv,hcl,hcv,hgb];rfl) ?_|(refine st_pureE (by first|(simp (disch:=omega) only[go_sem,hnv,hcl,hcv,hgb];rfl)|rfl) rfl (w1) (by first|(simp only[go_sem,hnv,hcl,hcv,hgb];rfl)|rfl) (by intro n;first|(simp (disch:=omega) only[go_sem];rfl)|rfl) ?_;intro n hn)|refine st_nil ?_)
 refine st_call (args:=[.agg (stR (elt (s.set i 1)))]) rfl (by first|(simp (disch:=omega) only[go_sem];rfl)|(simp (disch:=omega) only[go_sem])) rfl (ih 1 (q ++ [⟨1,(i:Nat),0,0⟩]) v' _ (.inl rfl) (by rw [hqc];omega) (by simp only[go_sem];omega) (by simp only[go_sem,↓reduceIte]) (by rw [List.map_append];exact hA.sl.to (fun b1 m e h1 h2=>by simp only[go_sem];rw [if_neg (fun e=>by rw [e] at h1;omega)]) (by simp only[go_sem];omega))) ?_
 rintro v1 g1 ⟨rfl,q1,q2,q3,v2,q4,q5⟩
 simp only[go_sem] at q1 q2 q3
 repeat' (first|refine st_det rfl (by simp (disch:=omega) only[go_sem,wr_i64,hnv,hcl,hcv,hgb];rfl) ?_|refine st_dop rfl ?_|(refine st_pureE (by first|(simp (disch:=omega) only[go_sem,hnv,hcl,hcv,hgb];rfl)|rfl) rfl (w2) (by first|(simp only[go_sem,hnv,hcl,hcv,hgb];rfl)|rfl) (by intro n;first|(simp (disch:=omega) only[go_sem];rfl)|rfl) ?_;intro n hn)|refine st_dgT rfl rfl rfl rfl ?_)
 refine st_call (args:=[.agg (stR (elt (s.set i 2)))]) rfl (by first|(simp (disch:=omega) only[go_sem];rfl)|(simp (disch:=omega) only[go_sem])) rfl (ih 2 (q ++ ([⟨1,((i:Nat):Int),0,0⟩]:List Rn) ++ prv t most k (s.set i 1)) v2 _ (.inr rfl) (by rw [List.length_append,hqc];omega) (show c0≤n by omega) q4 (q5.to (fun b1 m e h1 h2=>rfl) (show g1.clk≤n by omega))) ?_
 rintro v3 g2 ⟨rfl,p1,p2,p3,v4,p4,p5⟩
 simp only[go_sem] at p1 p2 p3
 repeat' (first|refine st_det rfl (by simp (disch:=omega) only[go_sem,wr_i64];rfl) ?_|refine st_dop rfl ?_|refine st_dnil ?_|refine st_ret ?_)
 simp (disch:=omega) only[AEnd,Tryd.results46,aresK,fin,go_sem,implies_true,true_and,and_true,List.reverse_cons,List.reverse_nil]
 exact ⟨by omega,by rw [p2,q2];exact hA.lp,fun b' h1 h2=>by rw [p3 b' h1 h2,q3 b' h1 h2,if_neg h1];exact hA.old b' h2,v4,p4,by rw [show q ++ ⟨1,(i:Nat),0,0⟩ :: (prv t most k (s.set i 1) ++ prv t most k (s.set i 2))=q ++ [⟨1,(i:Nat),0,0⟩] ++ prv t most k (s.set i 1) ++ prv t most k (s.set i 2) by simp];exact p5⟩
theorem Ok94.set {t:Tw} {most:Int} {s:List Int} (h:Ok94 t most s) {i:Nat} {w:Int} (hi:i < t.sts.length) (hw:w=1 ∨ w=2):Ok94 t most (s.set i w):=⟨by rw [List.length_set];exact h.len,fun j hj=>by
 rw [elt_set s i w (by rw [h.len];exact hi)]
 unfold upd
 split
 ·rcases hw with e|e <;> simp [e]
 ·exact h.val j hj⟩
theorem und_is {t:Tw} {s:List Int} {i:Nat} (h:und t s=some i):i < t.sts.length∧elt s i=0 :=
 ⟨List.mem_range.1 (List.mem_of_find?_eq_some h),by simpa using List.find?_some h⟩
theorem c46 (t:Tw) (most:Int) (b:Nat × Nat) (c0:Nat) (hT:TwOk t) (hbc:b.1 < c0)
  (hN:∀ s:List Int,s.length=t.sts.length→(∀ i,i < t.sts.length→elt s i=1 ∨ elt s i=2)→¬ most < shN s→crL t (elt s) ≠ []) :
  ∀ (k d:Nat),k≤d→∀ (s:List Int) (q:List Rn) (v:AV) (h:AH),Ok94 t most s→cntZ s < k→q.length+2 ^ k < 4999→c0≤h.clk→h.at_ b=some ⟨1,[[v]]⟩→SlA c0 h v 4 (q.map Rn.row)→W94 t most b c0 k d s q h:=by
 intro k
 induction k with
 | zero=>intro d _ s q v h _ hc;exact absurd hc (Nat.not_lt_zero _)
 | succ k ih =>
  intro d hd s q v h hs hcz hq hch hb hS
  have h2k:1≤(2:Nat) ^ (k+1):=Nat.one_le_two_pow
  by_cases hm:most < shN s
  ·exact w94_many t most b c0 k d s q h v hT hs (by omega) hbc hch hb hS hm
  cases hx:crL t (elt s) with
  | cons x l=>exact w94_full t most b c0 k d s q h v hT hs (by omega) hbc hch hb hS hm hx
  | nil =>
   cases hu:und t s with
   | none =>
    refine absurd hx (hN s hs.len (fun i hi=>?_) hm)
    have h1:=hs.val i hi
    have h2:¬ elt s i=0:=fun e=>by
     unfold und at hu
     rw [List.find?_eq_none] at hu
     exact hu i (List.mem_range.2 hi) (decide_eq_true e)
    omega
   | some i =>
    obtain ⟨hi,hz⟩:=und_is hu
    obtain ⟨d,rfl⟩:∃ d',d=d'+1:=⟨d - 1,by omega⟩
    exact w94_split t most b c0 k d s q h v hT hs (by omega) hbc hch hb hS hm hx hi hu hq fun w q' v' g hw hq' hg1 hg2 hg3=>ih d (by omega) _ q' v' g (hs.set hi hw) (by have:=cntZ_set s i w (by rw [hs.len];exact hi) hz (by omega);omega) hq' hg1 hg2 hg3
end Go.Proofs.YtoafigpikgigaaaDoor

namespace Go.Proofs.YtoafigpikgigaaaDoor
open Go.Av
attribute [local irreducible] thenA blockA awp awpOps awpD awp1
attribute [local go_sem_proc] reduceAdd reduceMul reduceEqDiff Nat.reduceBEq reduceLeDiff
attribute [local go_sem_proc ↓] reduceIte
attribute [local go_sem] if_yes if_no
set_option maxHeartbeats 8000000
set_option maxRecDepth 20000
def rowA (r:List Int):List AV:=[.lst 1 (r.map iv)]
def lel (l:List (List Int)) (i:Nat):List Int:=l.getD i []
@[go_sem] theorem rowA_getD {l:List (List Int)} {i:Nat} (h:i < l.length):(l.map rowA).getD i []=[.lst 1 ((lel l i).map iv)]:=by
 simp [lel,rowA,List.getD_eq_getElem?_getD,h]
def rowsN (bs:Nat→Nat × Nat) (t:List (List Int)):List (List AV):=(List.range t.length).map fun j=>nrow (bs j) ((lel t j).map iv)
theorem lel_app {t:List (List Int)} {r:List Int} {j:Nat} (h:j < t.length):lel (t ++ [r]) j=lel t j:=by
 unfold lel;simp only[List.getD_eq_getElem?_getD];rw [List.getElem?_append_left h]
theorem lel_last {t:List (List Int)} {r:List Int}:lel (t ++ [r]) t.length=r:=by
 unfold lel;simp only[List.getD_eq_getElem?_getD];simp
structure RowsN (n0:Nat) (g:AH) (v:AV) (bs:Nat→Nat × Nat) (t:List (List Int)):Prop where
 at_:∀ j,j < t.length→g.at_ (bs j)=some ⟨1,(lel t j).map iv⟩
 ge:∀ j,j < t.length→n0≤(bs j).1
 lt:∀ j,j < t.length→(bs j).1 < g.clk
 ne:∀ j,j < t.length→∀ m,v ≠ .slc (bs j) 1 0 m
 inj:∀ j k,j < t.length→k < t.length→bs j=bs k→j=k
theorem RowsN.add {n0 k0 d N nn:Nat} {g H G:AH} {v v':AV} {bs:Nat→Nat × Nat} {t:List (List Int)} {row:List Int} {bb:Nat × Nat} {l:List (List AV)} (hA:AppA n0 k0 d H v 1 nn l v' G) (hR:RowsN n0 g v bs t) (hS:SlA n0 g v 1 (rowsN bs t)) (hH:∀ b:Bid,b.1 < g.clk→H.at_ b=g.at_ b) (hbb:H.at_ bb=some ⟨1,row.map iv⟩) (hb1:g.clk≤bb.1) (hbN:bb.1 < N) (hbd:bb ≠ (k0,d)) (hk0:g.clk≤k0) (hn0:n0≤g.clk):RowsN n0 (G.tick N) v' (fun j=>if j=t.length then bb else bs j) (t ++ [row]):=by
 have hlen:(t ++ [row]).length=t.length+1:=by simp
 have hnew:∀ b':Nat × Nat,(∀ m,v'=.slc b' 1 0 m→b'=(k0,d)):=fun b' m e=>by
  rcases hA.new with e'|e'
  ·rw [e'] at e;cases e
  ·rw [e'] at e;injection e with e1;exact e1.symm
 refine ⟨fun j hj=>?_,fun j hj=>?_,fun j hj=>?_,fun j hj m e=>?_,fun j k hj hk e=>?_⟩
 ·show G.at_ (if j=t.length then bb else bs j)=_
  by_cases q:j=t.length
  ·rw [if_pos q,q,lel_last,hA.keep bb (fun m e=>by have:=(hS.lt e).2.1;omega) hbd];exact hbb
  ·have hj':j < t.length:=by omega
   have q2:=hR.lt j hj'
   rw [if_neg q,lel_app hj',hA.keep (bs j) (hR.ne j hj') (fun e=>by rw [e] at q2;dsimp only at q2;omega),hH _ q2]
   exact hR.at_ j hj'
 ·show _≤(if j=t.length then bb else bs j).1
  by_cases q:j=t.length
  ·rw [if_pos q];omega
  ·rw [if_neg q];exact hR.ge j (by omega)
 ·show (if j=t.length then bb else bs j).1 < N
  by_cases q:j=t.length
  ·rw [if_pos q];exact hbN
  ·rw [if_neg q];have:=hR.lt j (by omega);omega
 ·have q1:=hnew _ m e
  by_cases q:j=t.length
  ·rw [if_pos q] at q1;exact hbd q1
  ·rw [if_neg q] at q1;have:=hR.lt j (by omega);rw [q1] at this;dsimp only at this;omega
 ·have e:(if j=t.length then bb else bs j)=(if k=t.length then bb else bs k):=e
  by_cases q:j=t.length
  ·by_cases q2:k=t.length
   ·omega
   ·rw [if_pos q,if_neg q2] at e;have:=hR.lt k (by omega);rw [← e] at this;omega
  ·by_cases q2:k=t.length
   ·rw [if_neg q,if_pos q2] at e;have:=hR.lt j (by omega);rw [e] at this;omega
   ·rw [if_neg q,if_neg q2] at e;exact hR.inj j k (by omega) (by omega) e
theorem RowsN.tick {n0:Nat} {g:AH} {v:AV} {bs:Nat→Nat × Nat} {t:List (List Int)} (hR:RowsN n0 g v bs t) {n:Nat} (hn:g.clk≤n):RowsN n0 (g.tick n) v bs t :=
 ⟨hR.at_,hR.ge,fun j hj=>Nat.lt_of_lt_of_le (hR.lt j hj) hn,hR.ne,hR.inj⟩
def chG (n m:Nat) (i:Nat):List (List Int):=(chs n m (i+1)).map (((i:Nat):Int) :: ·)
theorem VLe.lst {e:Nat} {es es':List (List AV)} (hl:es'.length=es.length) (hr:∀ c xs,VRss c es xs→VRss c es' xs) (hc:∀ r ∈ es',r.length=e∧r.all AV.cell=true):VLe (.lst e es) (.lst e es'):=by
 intro c x h
 simp only[VR] at h ⊢
 obtain ⟨a,cap,vs,h1,h2,h3,h4,h5,h6⟩:=h
 refine ⟨a,cap,vs,by rw [hl];exact h1,by rw [hl];exact h2,fun ea=>?_,hc,h5,hr c vs h6⟩
 have:=h3 ea
 subst this
 exact List.length_eq_zero_iff.1 hl
end Go.Proofs.YtoafigpikgigaaaDoor

namespace Go.Proofs.YtoafigpikgigaaaDoor
open Go.Av
attribute [local irreducible] thenA blockA awp awpOps awpD awp1
attribute [local go_sem_proc] reduceAdd reduceMul reduceEqDiff Nat.reduceBEq reduceLeDiff
attribute [local go_sem_proc ↓] reduceIte
attribute [local go_sem] if_yes if_no
set_option maxHeartbeats 8000000
set_option maxRecDepth 20000
end Go.Proofs.YtoafigpikgigaaaDoor

namespace Go.Proofs.YtoafigpikgigaaaDoor
open Go.Av
attribute [local irreducible] thenA blockA awp awpOps awpD awp1
attribute [local go_sem_proc] reduceAdd reduceMul reduceEqDiff Nat.reduceBEq reduceLeDiff
attribute [local go_sem_proc ↓] reduceIte
attribute [local go_sem] if_yes if_no
set_option maxHeartbeats 8000000
set_option maxRecDepth 20000
structure Gd (h:AH) (b:Nat × Nat) (x:Int) (g:AH):Prop where
 u:isU64 x
 d:g.at_ b=dr x
 old:∀ b':Nat × Nat,b'.1 < h.clk→b' ≠ b→g.at_ b'=h.at_ b'
 lp:g.lp=h.lp
 cl:h.clk≤g.clk
theorem Gd.to {h g g':AH} {b:Nat × Nat} {x x':Int} (hG:Gd h b x g) (u:isU64 x') (d:g'.at_ b=dr x') (ho:∀ b':Nat × Nat,b'.1 < h.clk→b' ≠ b→g'.at_ b'=g.at_ b') (hl:g'.lp=g.lp) (hc:g.clk≤g'.clk):Gd h b x' g' :=
 ⟨u,d,fun b' h1 h2=>by rw [ho b' h1 h2];exact hG.old b' h1 h2,by rw [hl];exact hG.lp,by have:=hG.cl;omega⟩
theorem Gd.put {h g:AH} {b:Nat × Nat} {x x':Int} (hG:Gd h b x g) (u:isU64 x') {n:Nat} (hn:g.clk≤n):Gd h b x' ((g.tick n).put b (dr x')) :=
 hG.to u (put_same _ _ _) (fun b' _ h2=>put_ne _ _ h2) rfl hn
theorem Gd.tick {h g:AH} {b:Nat × Nat} {x:Int} (hG:Gd h b x g) {n:Nat} (hn:g.clk≤n):Gd h b x (g.tick n):=hG.to hG.u hG.d (fun _ _ _=>rfl) rfl hn
theorem Gd.app {h H G:AH} {b:Nat × Nat} {x:Int} {h0 k0 d z n:Nat} {v v':AV} {l:List (List AV)} (hG:Gd h b x H) (hb:b.1 < h.clk) (h0h:h.clk≤h0) (hA:AppA h0 k0 d H v z n l v' G) {N:Nat} (hN:H.clk≤N):Gd h b x (G.tick N) :=
 hG.to hG.u (by show G.at_ b=_;rw [hA.old b (by omega)];exact hG.d) (fun b' h1 _=>hA.old b' (by omega)) hA.lp hN
end Go.Proofs.YtoafigpikgigaaaDoor

namespace Go.Proofs.YtoafigpikgigaaaDoor
open Go.Av
attribute [local irreducible] thenA blockA awp awpOps awpD awp1
attribute [local go_sem_proc] reduceAdd reduceMul reduceEqDiff Nat.reduceBEq reduceLeDiff
attribute [local go_sem_proc ↓] reduceIte
attribute [local go_sem] if_yes if_no
set_option maxHeartbeats 8000000
set_option maxRecDepth 20000
theorem chs_ok {t:Tw} {n:Nat}:∀ (m a:Nat) (x:List Int),x ∈ chs n m a→x.length=m∧(∀ i,i < x.length→(a:Int)≤elt x i∧elt x i < n)∧∀ i,0 < i→i < x.length→elt x (i - 1) < elt x i
 | 0,a,x,hx=>by
  have:x=[]:=by simpa [chs] using hx
  subst this
  exact ⟨rfl,fun i hi=>absurd hi (Nat.not_lt_zero _),fun i _ hi=>absurd hi (Nat.not_lt_zero _)⟩
 | m+1,a,x,hx=>by
  have key:∀ k,a+k≤n ∨ k=0→x ∈ catK (chG n m) a k→∃ j y,a≤j∧j < n∧x=((j:Nat):Int) :: y∧y ∈ chs n m (j+1):=by
   intro k
   induction k with
   | zero=>intro _ h;cases h
   | succ k ih =>
    intro hk h
    rcases List.mem_append.1 (show x ∈ catK (chG n m) a k ++ chG n m (a+k) from h) with h|h
    ·exact ih (by omega) h
    ·unfold chG at h
     obtain ⟨y,hy,rfl⟩:=List.mem_map.1 h
     exact ⟨a+k,y,by omega,by omega,rfl,hy⟩
  obtain ⟨j,y,h1,h2,rfl,h3⟩:=key (n - a) (by omega) hx
  obtain ⟨q1,q2,q3⟩:=chs_ok (t:=t) m (j+1) y h3
  have e0:elt (((j:Nat):Int) :: y) 0=j:=rfl
  have es:∀ i,elt (((j:Nat):Int) :: y) (i+1)=elt y i:=fun i=>rfl
  refine ⟨by simp [q1],fun i hi=>?_,fun i h0 hi=>?_⟩
  ·cases i with
   | zero=>rw [e0];omega
   | succ i=>rw [es];have:=q2 i (by simpa using hi);omega
  ·obtain ⟨i,rfl⟩:∃ i',i=i'+1:=⟨i - 1,by omega⟩
   rw [Nat.add_sub_cancel,es]
   cases i with
   | zero=>rw [e0];have:=q2 0 (by simpa using hi);omega
   | succ i=>rw [es];have:=q3 (i+1) (by omega) (by simpa using hi);simpa using this
end Go.Proofs.YtoafigpikgigaaaDoor

namespace Go.Proofs.YtoafigpikgigaaaDoor
open Go.Av
attribute [local irreducible] thenA blockA awp awpOps awpD awp1
attribute [local go_sem_proc] reduceAdd reduceMul reduceEqDiff Nat.reduceBEq reduceLeDiff
attribute [local go_sem_proc ↓] reduceIte
attribute [local go_sem] if_yes if_no
set_option maxHeartbeats 8000000
set_option maxRecDepth 20000
end Go.Proofs.YtoafigpikgigaaaDoor

namespace Go.Proofs.YtoafigpikgigaaaDoor
open Go.Av
attribute [local irreducible] thenA blockA awp awpOps awpD awp1
attribute [local go_sem_proc] reduceAdd reduceMul reduceEqDiff Nat.reduceBEq reduceLeDiff
attribute [local go_sem_proc ↓] reduceIte
attribute [local go_sem] if_yes if_no
set_option maxHeartbeats 8000000
set_option maxRecDepth 20000
end Go.Proofs.YtoafigpikgigaaaDoor

namespace Go.Proofs.YtoafigpikgigaaaDoor
open Go.Av
attribute [local irreducible] thenA blockA awp awpOps awpD awp1
attribute [local go_sem_proc] reduceAdd reduceMul reduceEqDiff Nat.reduceBEq reduceLeDiff
attribute [local go_sem_proc ↓] reduceIte
attribute [local go_sem] if_yes if_no
set_option maxHeartbeats 8000000
set_option maxRecDepth 20000
def bl (R:Nat) (f:Nat→Bool):List (List AV):=(List.range R).map fun q=>[.bool (f q)]
@[go_sem] theorem bl_len (R:Nat) (f:Nat→Bool):(bl R f).length=R:=by simp [bl]
@[go_sem] theorem bl_take (R:Nat) (f:Nat→Bool):List.take R (bl R f)=bl R f:=List.take_of_length_le (by rw [bl_len];exact Nat.le_refl _)
def nx (t:Tw) (c:List Int) (frm:Int) (n a q:Nat):Bool:=lvl t c frm n (q:Nat) || (List.range a).any fun p=>lvl t c frm n (p:Nat) && adjB t c (p:Nat) (q:Nat)
end Go.Proofs.YtoafigpikgigaaaDoor

namespace Go.Proofs.YtoafigpikgigaaaDoor
open Go.Av
attribute [local irreducible] thenA blockA awp awpOps awpD awp1
attribute [local go_sem_proc] reduceAdd reduceMul reduceEqDiff Nat.reduceBEq reduceLeDiff
attribute [local go_sem_proc ↓] reduceIte
attribute [local go_sem] if_yes if_no
set_option maxHeartbeats 8000000
set_option maxRecDepth 20000
def nl (R:Nat) (f:Nat→Int):List (List AV):=(List.range R).map fun q=>[.int .i64 (f q)]
@[go_sem] theorem nl_len (R:Nat) (f:Nat→Int):(nl R f).length=R:=by simp [nl]
@[go_sem] theorem nl_take (R:Nat) (f:Nat→Int):List.take R (nl R f)=nl R f:=List.take_of_length_le (by rw [nl_len];exact Nat.le_refl _)
theorem wlk_ext {t:Tw} {f g:Nat→Int} (R:Nat) (h:∀ j,j < R→f j=g j):∀ (p:List Int) (k:Nat) (q:Int),(∀ x ∈ p,0≤x∧x < R)→wlk t f p k q=wlk t g p k q
 | [],_,_,_=>rfl
 | _ :: _,0,_,_=>rfl
 | p :: ps,k+1,q,hp=>by
  have hp0:=hp p (List.mem_cons_self ..)
  show (if f p.toNat=0 then -2 else if f p.toNat=2 then q else wlk t f ps k (oth (sx t.sts p.toNat) q))=(if g p.toNat=0 then -2 else if g p.toNat=2 then q else wlk t g ps k (oth (sx t.sts p.toNat) q))
  rw [wlk_ext R h ps k _ (fun x hx=>hp x (List.mem_cons_of_mem _ hx)),h p.toNat (by omega)]
theorem plc_ext {t:Tw} {f g:Nat→Int} (h:∀ j,j < t.sts.length→f j=g j) {x:Gp} (hG:GpOk t x) (came step:Int):plc t f x came step=plc t g x came step:=by
 unfold plc
 rw [wlk_ext t.sts.length h x.path _ _ (fun y hy=>?_)]
 obtain ⟨i,hi,e⟩:=List.mem_iff_getElem.1 hy
 have:=hG.st i hi
 unfold elt at this
 rw [List.getD_eq_getElem?_getD,List.getElem?_eq_getElem hi] at this
 rw [← e];exact this
end Go.Proofs.YtoafigpikgigaaaDoor

namespace Go.Proofs.YtoafigpikgigaaaDoor
open Go.Av
set_option maxRecDepth 20000
theorem someB_iff {t:Tw} {s:Nat→Int} {g:Gp} {q st:Int}:someB t s g q st=true ↔ ∃ c,g.alo≤c∧c≤g.ahi∧plc t s g c st=q:=by
 unfold someB
 rw [List.any_eq_true]
 constructor
 ·rintro ⟨i,hi,h⟩
  have:=List.mem_range.1 hi
  exact ⟨g.alo+i,by omega,by omega,of_decide_eq_true h⟩
 ·rintro ⟨c,h1,h2,h3⟩
  exact ⟨(c - g.alo).toNat,List.mem_range.2 (by omega),decide_eq_true (by rw [show g.alo+(((c - g.alo).toNat:Nat):Int)=c by omega];exact h3)⟩
theorem allB_iff {t:Tw} {s:Nat→Int} {g:Gp} {q st:Int}:allB t s g q st=true ↔ ∀ c,g.alo≤c→c≤g.ahi→plc t s g c st=q:=by
 unfold allB
 rw [List.all_eq_true]
 constructor
 ·intro h c h1 h2
  have:=of_decide_eq_true (h (c - g.alo).toNat (List.mem_range.2 (by omega)))
  rw [show g.alo+(((c - g.alo).toNat:Nat):Int)=c by omega] at this
  exact this
 ·intro h i hi
  have:=List.mem_range.1 hi
  exact decide_eq_true (h _ (by omega) (by omega))
theorem sumF_le {F G:Nat→Int}:∀ {n:Nat},(∀ i,i < n→F i≤G i)→sumF F n≤sumF G n
 | 0,_=>Int.le_refl _
 | n+1,h=>by
  have h1:=sumF_le (n:=n) fun i hi=>h i (by omega)
  have h2:=h n (by omega)
  show sumF F n+F n≤sumF G n+G n
  omega
structure GpLe (a b:Gp):Prop where
 stay:a.stay=b.stay
 first:a.first=b.first
 path:a.path=b.path
 lo:b.lo≤a.lo
 lh:a.lo≤a.hi
 hi:a.hi≤b.hi
 alo:b.alo≤a.alo
 mid:a.alo≤a.ahi
 ahi:a.ahi≤b.ahi
structure TwLe (u t:Tw):Prop where
 sts:u.sts=t.sts
 steps:u.steps=t.steps
 rl:u.rooms.length=t.rooms.length
 room:∀ i,i < t.rooms.length→elt t.rooms i≤elt u.rooms i
 gl:u.gs.length=t.gs.length
 g:∀ i,i < t.gs.length→GpLe (gp u.gs i) (gp t.gs i)
theorem wlk_congr {u t:Tw} (h:u.sts=t.sts) (s:Nat→Int):∀ (p:List Int) (k:Nat) (q:Int),wlk u s p k q=wlk t s p k q
 | [],_,_=>rfl
 | _ :: _,0,_=>rfl
 | p :: ps,k+1,q=>by
  show (if s p.toNat=0 then -2 else if s p.toNat=2 then q else wlk u s ps k (oth (sx u.sts p.toNat) q))=(if s p.toNat=0 then -2 else if s p.toNat=2 then q else wlk t s ps k (oth (sx t.sts p.toNat) q))
  rw [wlk_congr h s ps k,h]
theorem plc_congr {u t:Tw} (h:u.sts=t.sts) (s:Nat→Int) {a b:Gp} (k:GpLe a b) (c st:Int):plc u s a c st=plc t s b c st:=by
 unfold plc;rw [wlk_congr h,k.stay,k.first,k.path]
theorem TwLe.ldHi {u t:Tw} (h:TwLe u t) (h0:∀ i,i < t.gs.length→0≤(gp t.gs i).hi) (s:Nat→Int) (q st:Int):Go.Proofs.YtoafigpikgigaaaDoor.ldHi u s q st≤Go.Proofs.YtoafigpikgigaaaDoor.ldHi t s q st:=by
 unfold Go.Proofs.YtoafigpikgigaaaDoor.ldHi
 rw [h.gl]
 refine sumF_le fun i hi=>?_
 have k:=h.g i hi
 unfold hiF
 by_cases e:someB u s (gp u.gs i) q st=true
 ·obtain ⟨c,h1,h2,h3⟩:=someB_iff.1 e
  have e2:someB t s (gp t.gs i) q st=true:=someB_iff.2 ⟨c,by have:=k.alo;omega,by have:=k.ahi;omega,by rw [← plc_congr h.sts s k];exact h3⟩
  rw [if_pos e,if_pos e2];exact k.hi
 ·rw [if_neg e]
  split
  ·exact h0 i hi
  ·exact Int.le_refl _
theorem TwLe.ldLo {u t:Tw} (h:TwLe u t) (h0:∀ i,i < t.gs.length→0≤(gp t.gs i).lo) (s:Nat→Int) (q st:Int):Go.Proofs.YtoafigpikgigaaaDoor.ldLo t s q st≤Go.Proofs.YtoafigpikgigaaaDoor.ldLo u s q st:=by
 unfold Go.Proofs.YtoafigpikgigaaaDoor.ldLo
 rw [h.gl]
 refine sumF_le fun i hi=>?_
 have k:=h.g i hi
 have h00:=h0 i hi
 have hl:=k.lo
 unfold loF
 by_cases e:allB t s (gp t.gs i) q st=true
 ·have e2:allB u s (gp u.gs i) q st=true:=allB_iff.2 fun c h1 h2=>by
   rw [plc_congr h.sts s k]
   exact allB_iff.1 e c (by have:=k.alo;omega) (by have:=k.ahi;omega)
  rw [if_pos e,if_pos e2];exact k.lo
 ·rw [if_neg e]
  split <;> omega
theorem catN_nil {α:Type} {g:Nat→List α}:∀ {n:Nat},catN g n=[] ↔ ∀ i,i < n→g i=[]
 | 0=>⟨fun _ i hi=>absurd hi (Nat.not_lt_zero _),fun _=>rfl⟩
 | n+1=>by
  show catN g n ++ g n=[] ↔ _
  rw [List.append_eq_nil_iff,catN_nil]
  constructor
  ·rintro ⟨h1,h2⟩ i hi
   by_cases e:i=n
   ·rw [e];exact h2
   ·exact h1 i (by omega)
  ·intro h
   exact ⟨fun i hi=>h i (by omega),h n (by omega)⟩
theorem mem_catN {α:Type} {g:Nat→List α} {x:α}:∀ {n:Nat},x ∈ catN g n ↔ ∃ i,i < n∧x ∈ g i
 | 0=>⟨fun h=>(by cases h),fun ⟨i,hi,_⟩=>absurd hi (Nat.not_lt_zero _)⟩
 | n+1=>by
  show x ∈ catN g n ++ g n ↔ _
  rw [List.mem_append,mem_catN]
  constructor
  ·rintro (⟨i,h1,h2⟩|h)
   ·exact ⟨i,by omega,h2⟩
   ·exact ⟨n,by omega,h⟩
  ·rintro ⟨i,h1,h2⟩
   by_cases e:i=n
   ·rw [e] at h2;exact .inr h2
   ·exact .inl ⟨i,by omega,h2⟩
theorem okB_iff {t:Tw} {l:List Int}:okB t l=true ↔ ∀ st q:Nat,st < (t.steps+1).toNat→q < t.rooms.length→Go.Proofs.YtoafigpikgigaaaDoor.ldHi t (cls l) (q:Nat) (st:Nat)≤elt t.rooms q:=by
 unfold okB
 rw [List.isEmpty_iff]
 unfold crL
 rw [catN_nil]
 constructor
 ·intro h st q h1 h2
  have:=catN_nil.1 (h st h1) q h2
  unfold crF at this
  by_cases e:elt t.rooms q < Go.Proofs.YtoafigpikgigaaaDoor.ldHi t (cls l) (q:Nat) (st:Nat)
  ·rw [if_pos e] at this;cases this
  ·omega
 ·intro h st h1
  refine catN_nil.2 fun q h2=>?_
  unfold crF
  rw [if_neg (by have:=h st q h1 h2;omega)]
theorem TwLe.okB {u t:Tw} (h:TwLe u t) (h0:∀ i,i < t.gs.length→0≤(gp t.gs i).hi) {l:List Int} (k:Go.Proofs.YtoafigpikgigaaaDoor.okB t l=true):Go.Proofs.YtoafigpikgigaaaDoor.okB u l=true:=by
 rw [okB_iff] at k ⊢
 intro st q h1 h2
 rw [h.steps] at h1;rw [h.rl] at h2
 have e1:=k st q h1 h2
 have e2:=h.ldHi h0 (cls l) (q:Nat) (st:Nat)
 have e3:=h.room q h2
 omega
theorem TwLe.clo {u t:Tw} (h:TwLe u t) (h0:∀ i,i < t.gs.length→0≤(gp t.gs i).hi) {A:List Int} (k:Go.Proofs.YtoafigpikgigaaaDoor.clo t t.sts.length=some A):∃ B,Go.Proofs.YtoafigpikgigaaaDoor.clo u u.sts.length=some B∧B.length≤A.length:=by
 rw [h.sts]
 unfold Go.Proofs.YtoafigpikgigaaaDoor.clo chsAll at *
 rw [h.sts,Nat.min_self]
 rw [Nat.min_self] at k
 obtain ⟨m,hm,hA⟩:=mem_catN.1 (List.mem_of_find?_eq_some k)
 have hAl:=(chs_ok (t:=t) m 0 A hA).1
 have hp:(crL u (cls A)).isEmpty=true:=h.okB h0 (l:=A) (List.find?_some k)
 have hin:A ∈ catN (fun m=>chs t.sts.length m 0) (m+1):=mem_catN.2 ⟨m,by omega,hA⟩
 cases e:(catN (fun m=>chs t.sts.length m 0) (m+1)).find? fun l=>(crL u (cls l)).isEmpty with
 | none=>exact absurd hp (by rw [List.find?_eq_none] at e;exact e A hin)
 | some B =>
  refine ⟨B,catN_fpre e (by omega),?_⟩
  obtain ⟨j,hj,hB⟩:=mem_catN.1 (List.mem_of_find?_eq_some e)
  have:=(chs_ok (t:=t) j 0 B hB).1
  omega
theorem TwLe.ok {u t:Tw} (h:TwLe u t) (hT:TwOk t) (hr:∀ i,i < t.rooms.length→elt u.rooms i≤1000000):TwOk u:=by
 have e1:=h.rl
 refine ⟨by rw [e1];exact hT.r0,by rw [e1];exact hT.rn,fun i hi=>?_,by rw [h.sts];exact hT.sn,fun i hi=>?_,by rw [h.steps];exact hT.steps,by rw [h.gl];exact hT.gn,fun i hi=>?_⟩
 ·rw [e1] at hi
  have a:=hT.room i hi;have b:=h.room i hi;have c:=hr i hi
  omega
 ·rw [h.sts] at hi
  have:=hT.st i hi
  rw [h.sts,e1];exact this
 ·rw [h.gl] at hi
  have k:=h.g i hi
  have a:=hT.g i hi
  have a1:=a.size;have a2:=a.at_;have k1:=k.lo;have k2:=k.hi;have k3:=k.alo;have k4:=k.ahi;have k5:=k.lh;have k6:=k.mid
  refine ⟨by omega,by omega,by rw [k.stay];exact a.stay,by rw [k.first,e1];exact a.first,by rw [k.path];exact a.many,fun j hj=>?_,fun j hj=>?_⟩
  ·rw [k.path] at hj ⊢;rw [h.sts];exact a.st j hj
  ·rw [k.path] at hj ⊢;rw [k.first,wayN_congr h.sts];exact a.way j hj
theorem TwLe.refl {t:Tw} (hT:TwOk t):TwLe t t :=
 ⟨rfl,rfl,rfl,fun _ _=>Int.le_refl _,rfl,fun i hi=>by
  have a:=hT.g i hi
  have a1:=a.size;have a2:=a.at_
  exact ⟨rfl,rfl,rfl,Int.le_refl _,a1.2.1,Int.le_refl _,Int.le_refl _,a2.2.1,Int.le_refl _⟩⟩
end Go.Proofs.YtoafigpikgigaaaDoor
