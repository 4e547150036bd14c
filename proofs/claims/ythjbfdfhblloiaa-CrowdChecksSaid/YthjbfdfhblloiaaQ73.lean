/- Contracts of functions that the claim reaches: what each call gives, told in our own logic. Conditions: those of each theorem. -/
import Derived.Test.YthjbfdfhblloiaaQ22
import Derived.Test.YthjbfdfhblloiaaBaseD
import Derived.Test.YthjbfdfhblloiaaQ55
import Derived.Test.YthjbfdfhblloiaaQ18
import Derived.Test.YthjbfdfhblloiaaW14
import Derived.Test.YthjbfdfhblloiaaQ29
open Nat (reduceAdd reduceMul reduceEqDiff reduceLeDiff)
open List (length_map)
set_option linter.all false
set_option linter.unusedSimpArgs false
set_option linter.unusedVariables false
namespace Go.Proofs.Ythjbfdfhblloiaa
open Go.Av
set_option maxRecDepth 20000
theorem prv_len (t:Tw) (most:Int):∀ (k:Nat) (s:List Int),(prv t most k s).length+1≤2 ^ k
  | 0,_=>by show 0+1≤1;omega
  | k+1,s=>by
    have h2:(2:Nat) ^ (k+1)=2 ^ k * 2:=Nat.pow_succ ..
    have hk:1≤(2:Nat) ^ k:=Nat.one_le_two_pow
    show (if most < shN s then [⟨3,0,0,0⟩] else match (crL t (elt s)).head? with
      | some x=>[⟨2,0,x.sq,x.step⟩]
      | none=>match und t s with
        | none=>[]
        | some i=>(⟨1,(i:Nat),0,0⟩:Rn) :: (prv t most k (s.set i 1) ++ prv t most k (s.set i 2))).length+1≤2 ^ (k+1)
    split
    · simp only[List.length_cons,List.length_nil];omega
    · split
      · simp only[List.length_cons,List.length_nil];omega
      · split
        · simp only[List.length_nil];omega
        · rename_i i _
          have a:=prv_len t most k (s.set i 1)
          have b:=prv_len t most k (s.set i 2)
          simp only[List.length_cons,List.length_append];omega
theorem prv_many {t:Tw} {most:Int} {k:Nat} {s:List Int} (h:most < shN s):prv t most (k+1) s=[⟨3,0,0,0⟩]:=by
  show (if most < shN s then _ else _)=_;rw [if_pos h]
theorem prv_full {t:Tw} {most:Int} {k:Nat} {s:List Int} (h:¬ most < shN s) {x:Cr} {l:List Cr} (hx:crL t (elt s)=x :: l):prv t most (k+1) s=[⟨2,0,x.sq,x.step⟩]:=by
  show (if most < shN s then _ else match (crL t (elt s)).head? with|some x=>_|none=>_)=_;rw [if_neg h,hx];rfl
theorem prv_split {t:Tw} {most:Int} {k:Nat} {s:List Int} (h:¬ most < shN s) (hx:crL t (elt s)=[]) {i:Nat} (hu:und t s=some i):prv t most (k+1) s=⟨1,(i:Nat),0,0⟩ :: (prv t most k (s.set i 1) ++ prv t most k (s.set i 2)):=by
  show (if most < shN s then _ else match (crL t (elt s)).head? with|some x=>_|none=>match und t s with|none=>_|some i=>_)=_;rw [if_neg h,hx,hu];rfl
end Go.Proofs.Ythjbfdfhblloiaa

namespace Go.Proofs.Ythjbfdfhblloiaa
open Go.Av
attribute [local irreducible] thenA blockA awp awpOps awpD awp1
set_option maxHeartbeats 8000000
set_option maxRecDepth 20000
def pcap2 (b:Nat × Nat) (t:Tw) (most:Int):List AV:=[.ptr b 0 0,.iptr [.int .i64 most] 0,.iptr t.cells 0]
@[go_sem] theorem pknot2 (b:Nat × Nat) (t:Tw) (most:Int) (d:Nat):knot (.func 94) (pcap2 b t most) (d+1)=.iptr [.fn (.func 94) [] [.ptr b 0 0,.iptr [.int .i64 most] 0,.iptr t.cells 0,knot (.func 94) (pcap2 b t most) d]] 0:=rfl
def W94 (t:Tw) (most:Int) (b:Nat × Nat) (c0 k d:Nat) (s:List Int) (q:List Rn) (h:AH):Prop :=
  ACalls Try.prog 94 [.agg (stR (elt s)),.ptr b 0 0,.iptr [.int .i64 most] 0,.iptr t.cells 0,knot (.func 94) (pcap2 b t most) d] h
    (fun r h'=>r=.bool true∧h.clk≤h'.clk∧h'.lp=h.lp∧(∀ b':Bid,b' ≠ b→b'.1 < c0→h'.at_ b'=h.at_ b')∧∃ v',h'.at_ b=some ⟨1,[[v']]⟩∧SlA c0 h' v' 4 ((q ++ prv t most k s).map Rn.row))
structure Ok94 (t:Tw) (most:Int) (s:List Int):Prop where
  len:s.length=t.sts.length
  val:∀ i,i < t.sts.length→elt s i=0 ∨ elt s i=1 ∨ elt s i=2
theorem w94_many (t:Tw) (most:Int) (b:Nat × Nat) (c0 k d:Nat) (s:List Int) (q:List Rn) (h:AH) (v:AV) (hT:TwOk t) (hs:Ok94 t most s) (hq:q.length < 4999) (hbc:b.1 < c0) (hch:c0≤h.clk) (hb:h.at_ b=some ⟨1,[[v]]⟩) (hS:SlA c0 h v 4 (q.map Rn.row)) (hm:most < shN s):W94 t most b c0 (k+1) d s q h:=by
  have hsn:=hT.sn
  have hsl:=hs.len
  have k70:=c70 (elt s)
  rw [shN_eq s (by omega)] at k70
  have hnc:=hS.noL
  have hcc:=hS.cell
  have hal:alen (tt 27) v=some (q.length:Int):=by
    rcases hS with ⟨e1,e⟩|⟨b3,e1,_⟩
    · have e2:q=[]:=by simpa using e
      rw [e1,e2];rfl
    · rw [e1,length_map];rfl
  unfold W94
  rw [prv_many hm]
  refine ACalls.of tab mixed Try.call94 Try.func94 rfl (fi:=⟨62,[7],[5,20,35,48],none,[(3,[0,1,0,7],[(0,true),(2,true),(1,false),(3,false)]),(14,[0,0,0,6,15,31,63,63,63,447,1023,2047,4095],[(0,true),(1,true),(2,false),(3,false),(4,false),(5,false),(6,true),(7,true),(8,false),(9,false),(10,false),(11,false),(12,false)])]⟩) rfl rfl (Nat.le_of_ble_eq_true rfl) (by decide) ?_
  unfold startA
  unfold Tw.cells
  repeat' (first|refine st_seq_reg rfl (by first|(simp only[go_sem,length_map,hb,hal];rfl)|rfl) (by first|(simp only[go_sem,length_map,hb,hal];rfl)|rfl) ?_|refine st_seq_draw rfl (by first|(simp only[go_sem,length_map,hb,hal];rfl)|rfl) (by first|(simp only[go_sem,length_map,hb,hal];rfl)|rfl) ?_|refine st_op ?_|refine st_det rfl (by simp (disch:=omega) only[go_sem,wr_i64,if_yes,if_no,↓reduceIte,reduceAdd,reduceMul,reduceEqDiff,Nat.reduceBEq,reduceLeDiff,length_map,hb,hal];rfl) ?_|refine st_dop rfl ?_|(refine st_pureE (by first|(simp (disch:=omega) only[go_sem,length_map,hb,hal];rfl)|rfl) rfl (k70) (by first|(simp only[go_sem,length_map,hb,hal];rfl)|rfl) (by intro n;first|(simp (disch:=omega) only[go_sem];rfl)|rfl) ?_;intro n hn)|(refine st_appS (by intro h id x y;simp only[go_sem];rfl) rfl (by simp only[go_sem,length_map,hb,hal];rfl) (by simp only[go_sem,length_map,hb,hal];rfl) (by decide) hS (fun _ _ _=>rfl) (by omega) (by simp only[length_map,List.length_cons,List.length_nil,big,length_map,hb,hal];omega) (by omega) (by omega) ?_;intro v' g' hA)|(refine st_condS rfl ?_ ?_ <;> intro hg <;> (try simp only[decide_eq_true_eq,decide_eq_false_iff_not,Bool.not_eq_true',Bool.not_eq_false'] at hg))|refine st_nil ?_|refine st_dnil ?_|refine st_tN ?_|refine st_seq ?_|refine st_skip ?_|refine st_ret ?_|refine st_tR ?_)
  all_goals try (exfalso;omega)
  have hnv:=hA.nol
  have hcl:=hA.sl.cell
  have hcv:=cells_one hcl
  have hgb:=(hA.old b hbc)
  simp only[go_sem] at hgb
  rw [hb] at hgb
  repeat' (first|refine st_seq_reg rfl (by first|(simp only[go_sem,hnv,hcl,hcv,hgb];rfl)|rfl) (by first|(simp only[go_sem,hnv,hcl,hcv,hgb];rfl)|rfl) ?_|refine st_op ?_|refine st_det rfl (by simp (disch:=omega) only[go_sem,wr_i64,if_yes,if_no,↓reduceIte,reduceAdd,reduceMul,reduceEqDiff,Nat.reduceBEq,reduceLeDiff,hnv,hcl,hcv,hgb];rfl) ?_|refine st_store (by simp (disch:=omega) only[go_sem,wr_i64,if_yes,if_no,↓reduceIte,reduceAdd,reduceMul,reduceEqDiff,Nat.reduceBEq,reduceLeDiff,hnv,hcl,hcv,hgb];rfl) ?_|refine st_nil ?_|refine st_ret ?_|refine st_tR ?_)
  simp (disch:=omega) only[AEnd,Try.results94,aresK,fin,go_sem,↓reduceIte,reduceEqDiff,reduceAdd,reduceLeDiff,if_yes,if_no,implies_true,true_and,and_true,List.reverse_cons,List.reverse_nil]
  exact ⟨by omega,hA.lp,fun b' h1 h2=>by rw [if_neg h1];exact hA.old b' h2,v',rfl,by rw [List.map_append];exact hA.sl.to (fun b1 m e h1 h2=>by simp only[go_sem];rw [if_neg (fun e=>by rw [e] at h1;omega)]) (by simp only[go_sem];omega)⟩
theorem w94_full (t:Tw) (most:Int) (b:Nat × Nat) (c0 k d:Nat) (s:List Int) (q:List Rn) (h:AH) (v:AV) (hT:TwOk t) (hs:Ok94 t most s) (hq:q.length < 4999) (hbc:b.1 < c0) (hch:c0≤h.clk) (hb:h.at_ b=some ⟨1,[[v]]⟩) (hS:SlA c0 h v 4 (q.map Rn.row)) (hm:¬ most < shN s) {x:Cr} {l:List Cr} (hx:crL t (elt s)=x :: l):W94 t most b c0 (k+1) d s q h:=by
  have hsn:=hT.sn
  have hsl:=hs.len
  have k70:=c70 (elt s)
  rw [shN_eq s (by omega)] at k70
  have k95:=c95 t (elt s) hT
  have hnc:=hS.noL
  have hcc:=hS.cell
  have hal:alen (tt 27) v=some (q.length:Int):=by
    rcases hS with ⟨e1,e⟩|⟨b3,e1,_⟩
    · have e2:q=[]:=by simpa using e
      rw [e1,e2];rfl
    · rw [e1,length_map];rfl
  have hV:crV t (elt s)=.tup [.agg x.row,.bool true]:=by unfold crV;rw [hx]
  rw [hV] at k95
  unfold W94
  rw [prv_full hm hx]
  refine ACalls.of tab mixed Try.call94 Try.func94 rfl (fi:=⟨62,[7],[5,20,35,48],none,[(3,[0,1,0,7],[(0,true),(2,true),(1,false),(3,false)]),(14,[0,0,0,6,15,31,63,63,63,447,1023,2047,4095],[(0,true),(1,true),(2,false),(3,false),(4,false),(5,false),(6,true),(7,true),(8,false),(9,false),(10,false),(11,false),(12,false)])]⟩) rfl rfl (Nat.le_of_ble_eq_true rfl) (by decide) ?_
  unfold startA
  unfold Tw.cells
  repeat' (first|refine st_seq_reg rfl (by first|(simp only[go_sem,length_map,hb,hal];rfl)|rfl) (by first|(simp only[go_sem,length_map,hb,hal];rfl)|rfl) ?_|refine st_seq_draw rfl (by first|(simp only[go_sem,length_map,hb,hal];rfl)|rfl) (by first|(simp only[go_sem,length_map,hb,hal];rfl)|rfl) ?_|refine st_op ?_|refine st_det rfl (by simp (disch:=omega) only[go_sem,wr_i64,if_yes,if_no,↓reduceIte,reduceAdd,reduceMul,reduceEqDiff,Nat.reduceBEq,reduceLeDiff,length_map,hb,hal];rfl) ?_|refine st_dop rfl ?_|refine st_loc rfl (by simp (disch:=omega) only[go_sem,wr_i64,if_yes,if_no,↓reduceIte,reduceAdd,reduceMul,reduceEqDiff,Nat.reduceBEq,reduceLeDiff,length_map,hb,hal];rfl) ?_|refine st_store (by simp (disch:=omega) only[go_sem,wr_i64,if_yes,if_no,↓reduceIte,reduceAdd,reduceMul,reduceEqDiff,Nat.reduceBEq,reduceLeDiff,length_map,hb,hal];rfl) ?_|(refine st_pureE (by first|(simp (disch:=omega) only[go_sem,length_map,hb,hal];rfl)|rfl) rfl (k70) (by first|(simp only[go_sem,length_map,hb,hal];rfl)|rfl) (by intro n;first|(simp (disch:=omega) only[go_sem];rfl)|rfl) ?_;intro n hn)|(refine st_pureE (by first|(simp (disch:=omega) only[go_sem,length_map,hb,hal];rfl)|rfl) rfl (k95) (by first|(simp only[go_sem,length_map,hb,hal];rfl)|rfl) (by intro n;first|(simp (disch:=omega) only[go_sem];rfl)|rfl) ?_;intro n hn)|(refine st_appS (by intro h id x y;simp only[go_sem];rfl) rfl (by simp only[go_sem,length_map,hb,hal];rfl) (by simp only[go_sem,length_map,hb,hal];rfl) (by decide) hS (fun _ _ _=>rfl) (by omega) (by simp only[length_map,List.length_cons,List.length_nil,big,length_map,hb,hal];omega) (by omega) (by omega) ?_;intro v' g' hA)|refine st_condT rfl ?_|(refine st_condS rfl ?_ ?_ <;> intro hg <;> (try simp only[decide_eq_true_eq,decide_eq_false_iff_not,Bool.not_eq_true',Bool.not_eq_false'] at hg))|refine st_nil ?_|refine st_dnil ?_|refine st_tN ?_|refine st_seq ?_|refine st_skip ?_|refine st_ret ?_|refine st_tR ?_)
  all_goals try (exfalso;omega)
  have hnv:=hA.nol
  have hcl:=hA.sl.cell
  have hcv:=cells_one hcl
  have hgb:=(hA.old b hbc)
  simp only[go_sem] at hgb
  rw [hb] at hgb
  repeat' (first|refine st_seq_reg rfl (by first|(simp only[go_sem,hnv,hcl,hcv,hgb];rfl)|rfl) (by first|(simp only[go_sem,hnv,hcl,hcv,hgb];rfl)|rfl) ?_|refine st_op ?_|refine st_det rfl (by simp (disch:=omega) only[go_sem,wr_i64,if_yes,if_no,↓reduceIte,reduceAdd,reduceMul,reduceEqDiff,Nat.reduceBEq,reduceLeDiff,hnv,hcl,hcv,hgb];rfl) ?_|refine st_store (by simp (disch:=omega) only[go_sem,wr_i64,if_yes,if_no,↓reduceIte,reduceAdd,reduceMul,reduceEqDiff,Nat.reduceBEq,reduceLeDiff,hnv,hcl,hcv,hgb];rfl) ?_|refine st_nil ?_|refine st_ret ?_|refine st_tR ?_)
  simp (disch:=omega) only[AEnd,Try.results94,aresK,fin,go_sem,↓reduceIte,reduceEqDiff,reduceAdd,reduceLeDiff,if_yes,if_no,implies_true,true_and,and_true,List.reverse_cons,List.reverse_nil]
  exact ⟨by omega,hA.lp,fun b' h1 h2=>by rw [if_neg h1];exact hA.old b' h2,v',rfl,by rw [List.map_append];exact hA.sl.to (fun b1 m e h1 h2=>by simp only[go_sem];rw [if_neg (fun e=>by rw [e] at h1;omega)]) (by simp only[go_sem];omega)⟩
theorem w94_split (t:Tw) (most:Int) (b:Nat × Nat) (c0 k d:Nat) (s:List Int) (q:List Rn) (h:AH) (v:AV) (hT:TwOk t) (hs:Ok94 t most s) (hq:q.length < 4999) (hbc:b.1 < c0) (hch:c0≤h.clk) (hb:h.at_ b=some ⟨1,[[v]]⟩) (hS:SlA c0 h v 4 (q.map Rn.row)) (hm:¬ most < shN s) (hx:crL t (elt s)=[]) {i:Nat} (hi:i < t.sts.length) (hu:und t s=some i) (hqk:q.length+2 ^ (k+1) < 4999)
    (ih:∀ (w:Int) (q':List Rn) (v':AV) (g:AH),(w=1 ∨ w=2)→q'.length+2 ^ k < 4999→c0≤g.clk→g.at_ b=some ⟨1,[[v']]⟩→SlA c0 g v' 4 (q'.map Rn.row)→W94 t most b c0 k d (s.set i w) q' g):W94 t most b c0 (k+1) (d+1) s q h:=by
  have hsn:=hT.sn
  have hsl:=hs.len
  have k70:=c70 (elt s)
  rw [shN_eq s (by omega)] at k70
  have k95:=c95 t (elt s) hT
  have hnc:=hS.noL
  have hcc:=hS.cell
  have hal:alen (tt 27) v=some (q.length:Int):=by
    rcases hS with ⟨e1,e⟩|⟨b3,e1,_⟩
    · have e2:q=[]:=by simpa using e
      rw [e1,e2];rfl
    · rw [e1,length_map];rfl
  have hV:crV t (elt s)=.tup [.agg [.int .i64 0,.int .i64 0,.int .i64 0],.bool false]:=by unfold crV;rw [hx]
  rw [hV] at k95
  have k96:=c96 t s hsn hs.val
  have hU:undV t s=.tup [.int .i64 ((i:Nat):Int),.bool true]:=by unfold undV;rw [hu]
  rw [hU] at k96
  have w1:=c72 (elt s) (i:Nat) 1 ⟨by omega,by omega⟩
  have w2:=c72 (elt s) (i:Nat) 2 ⟨by omega,by omega⟩
  simp only[toNat_cast] at w1 w2
  rw [← elt_set s _ 1 (by omega)] at w1
  rw [← elt_set s _ 2 (by omega)] at w2
  have hpl:=prv_len t most k (s.set i 1)
  have h2k:(2:Nat) ^ (k+1)=2 ^ k * 2:=Nat.pow_succ ..
  have hqc:∀ r:Rn,(q ++ [r]).length=q.length+1:=fun r=>by simp
  unfold W94 at ih ⊢
  rw [prv_split hm hx hu]
  refine ACalls.of tab mixed Try.call94 Try.func94 rfl (fi:=⟨62,[7],[5,20,35,48],none,[(3,[0,1,0,7],[(0,true),(2,true),(1,false),(3,false)]),(14,[0,0,0,6,15,31,63,63,63,447,1023,2047,4095],[(0,true),(1,true),(2,false),(3,false),(4,false),(5,false),(6,true),(7,true),(8,false),(9,false),(10,false),(11,false),(12,false)])]⟩) rfl rfl (Nat.le_of_ble_eq_true rfl) (by decide) ?_
  unfold startA
  unfold Tw.cells
  simp only[go_sem]
  repeat' (first|refine st_seq_reg rfl (by first|(simp only[go_sem,length_map,hb,hal];rfl)|rfl) (by first|(simp only[go_sem,length_map,hb,hal];rfl)|rfl) ?_|refine st_seq_draw rfl (by first|(simp only[go_sem,length_map,hb,hal];rfl)|rfl) (by first|(simp only[go_sem,length_map,hb,hal];rfl)|rfl) ?_|refine st_op ?_|refine st_det rfl (by simp (disch:=omega) only[go_sem,wr_i64,if_yes,if_no,↓reduceIte,reduceAdd,reduceMul,reduceEqDiff,Nat.reduceBEq,reduceLeDiff,length_map,hb,hal];rfl) ?_|refine st_dop rfl ?_|refine st_loc rfl (by simp (disch:=omega) only[go_sem,wr_i64,if_yes,if_no,↓reduceIte,reduceAdd,reduceMul,reduceEqDiff,Nat.reduceBEq,reduceLeDiff,length_map,hb,hal];rfl) ?_|refine st_store (by simp (disch:=omega) only[go_sem,wr_i64,if_yes,if_no,↓reduceIte,reduceAdd,reduceMul,reduceEqDiff,Nat.reduceBEq,reduceLeDiff,length_map,hb,hal];rfl) ?_|(refine st_pureE (by first|(simp (disch:=omega) only[go_sem,length_map,hb,hal];rfl)|rfl) rfl (k70) (by first|(simp only[go_sem,length_map,hb,hal];rfl)|rfl) (by intro n;first|(simp (disch:=omega) only[go_sem];rfl)|rfl) ?_;intro n hn)|(refine st_pureE (by first|(simp (disch:=omega) only[go_sem,length_map,hb,hal];rfl)|rfl) rfl (k95) (by first|(simp only[go_sem,length_map,hb,hal];rfl)|rfl) (by intro n;first|(simp (disch:=omega) only[go_sem];rfl)|rfl) ?_;intro n hn)|(refine st_pureE (by first|(simp (disch:=omega) only[go_sem,length_map,hb,hal];rfl)|rfl) rfl (k96) (by first|(simp only[go_sem,length_map,hb,hal];rfl)|rfl) (by intro n;first|(simp (disch:=omega) only[go_sem];rfl)|rfl) ?_;intro n hn)|(refine st_appS (by intro h id x y;simp only[go_sem];rfl) rfl (by simp only[go_sem,length_map,hb,hal];rfl) (by simp only[go_sem,length_map,hb,hal];rfl) (by decide) hS (fun _ _ _=>rfl) (by omega) (by simp only[length_map,List.length_cons,List.length_nil,big,length_map,hb,hal];omega) (by omega) (by omega) ?_;intro v' g' hA)|refine st_condF rfl ?_|(refine st_condS rfl ?_ ?_ <;> intro hg <;> (try simp only[decide_eq_true_eq,decide_eq_false_iff_not,Bool.not_eq_true',Bool.not_eq_false'] at hg))|refine st_nil ?_|refine st_dnil ?_|refine st_tN ?_|refine st_seq ?_|refine st_skip ?_|refine st_ret ?_|refine st_tR ?_)
  all_goals try (exfalso;omega)
  have hnv:=hA.nol
  have hcl:=hA.sl.cell
  have hcv:=cells_one hcl
  have hgb:=(hA.old b hbc)
  simp only[go_sem] at hgb
  rw [hb] at hgb
  repeat' (first|refine st_seq_draw rfl (by first|(simp only[go_sem,hnv,hcl,hcv,hgb];rfl)|rfl) (by first|(simp only[go_sem,hnv,hcl,hcv,hgb];rfl)|rfl) ?_|refine st_det rfl (by simp (disch:=omega) only[go_sem,wr_i64,if_yes,if_no,↓reduceIte,reduceAdd,reduceMul,reduceEqDiff,Nat.reduceBEq,reduceLeDiff,hnv,hcl,hcv,hgb];rfl) ?_|refine st_dop rfl ?_|refine st_store (by simp (disch:=omega) only[go_sem,wr_i64,if_yes,if_no,↓reduceIte,reduceAdd,reduceMul,reduceEqDiff,Nat.reduceBEq,reduceLeDiff,hnv,hcl,hcv,hgb];rfl) ?_|(refine st_pureE (by first|(simp (disch:=omega) only[go_sem,hnv,hcl,hcv,hgb];rfl)|rfl) rfl (w1) (by first|(simp only[go_sem,hnv,hcl,hcv,hgb];rfl)|rfl) (by intro n;first|(simp (disch:=omega) only[go_sem];rfl)|rfl) ?_;intro n hn)|refine st_nil ?_)
  refine st_call (args:=[.agg (stR (elt (s.set i 1)))]) rfl (by first|(simp (disch:=omega) only[go_sem];rfl)|(simp (disch:=omega) only[go_sem])) rfl (ih 1 (q ++ [⟨1,(i:Nat),0,0⟩]) v' _ (.inl rfl) (by rw [hqc];omega) (by simp only[go_sem];omega) (by simp only[go_sem,↓reduceIte]) (by rw [List.map_append];exact hA.sl.to (fun b1 m e h1 h2=>by simp only[go_sem];rw [if_neg (fun e=>by rw [e] at h1;omega)]) (by simp only[go_sem];omega))) ?_
  rintro v1 g1 ⟨rfl,q1,q2,q3,v2,q4,q5⟩
  simp only[go_sem] at q1 q2 q3
  repeat' (first|refine st_det rfl (by simp (disch:=omega) only[go_sem,wr_i64,if_yes,if_no,↓reduceIte,reduceAdd,reduceMul,reduceEqDiff,Nat.reduceBEq,reduceLeDiff,hnv,hcl,hcv,hgb];rfl) ?_|refine st_dop rfl ?_|(refine st_pureE (by first|(simp (disch:=omega) only[go_sem,hnv,hcl,hcv,hgb];rfl)|rfl) rfl (w2) (by first|(simp only[go_sem,hnv,hcl,hcv,hgb];rfl)|rfl) (by intro n;first|(simp (disch:=omega) only[go_sem];rfl)|rfl) ?_;intro n hn)|refine st_dgT rfl rfl rfl rfl ?_)
  refine st_call (args:=[.agg (stR (elt (s.set i 2)))]) rfl (by first|(simp (disch:=omega) only[go_sem];rfl)|(simp (disch:=omega) only[go_sem])) rfl (ih 2 (q ++ ([⟨1,((i:Nat):Int),0,0⟩]:List Rn) ++ prv t most k (s.set i 1)) v2 _ (.inr rfl) (by rw [List.length_append,hqc];omega) (show c0≤n by omega) q4 (q5.to (fun b1 m e h1 h2=>rfl) (show g1.clk≤n by omega))) ?_
  rintro v3 g2 ⟨rfl,p1,p2,p3,v4,p4,p5⟩
  simp only[go_sem] at p1 p2 p3
  repeat' (first|refine st_det rfl (by simp (disch:=omega) only[go_sem,wr_i64,if_yes,if_no,↓reduceIte,reduceAdd,reduceMul,reduceEqDiff,Nat.reduceBEq,reduceLeDiff];rfl) ?_|refine st_dop rfl ?_|refine st_dnil ?_|refine st_ret ?_)
  simp (disch:=omega) only[AEnd,Try.results94,aresK,fin,go_sem,↓reduceIte,reduceEqDiff,reduceAdd,reduceLeDiff,if_yes,if_no,implies_true,true_and,and_true,List.reverse_cons,List.reverse_nil]
  exact ⟨by omega,by rw [p2,q2];exact hA.lp,fun b' h1 h2=>by rw [p3 b' h1 h2,q3 b' h1 h2,if_neg h1];exact hA.old b' h2,v4,p4,by rw [show q ++ ⟨1,(i:Nat),0,0⟩ :: (prv t most k (s.set i 1) ++ prv t most k (s.set i 2))=q ++ [⟨1,(i:Nat),0,0⟩] ++ prv t most k (s.set i 1) ++ prv t most k (s.set i 2) by simp];exact p5⟩
theorem Ok94.set {t:Tw} {most:Int} {s:List Int} (h:Ok94 t most s) {i:Nat} {w:Int} (hi:i < t.sts.length) (hw:w=1 ∨ w=2):Ok94 t most (s.set i w):=⟨by rw [List.length_set];exact h.len,fun j hj=>by
  rw [elt_set s i w (by rw [h.len];exact hi)]
  unfold upd
  split
  · rcases hw with e|e <;> simp [e]
  · exact h.val j hj⟩
theorem und_is {t:Tw} {s:List Int} {i:Nat} (h:und t s=some i):i < t.sts.length∧elt s i=0 :=
  ⟨List.mem_range.1 (List.mem_of_find?_eq_some h),by simpa using List.find?_some h⟩
theorem c94 (t:Tw) (most:Int) (b:Nat × Nat) (c0:Nat) (hT:TwOk t) (hbc:b.1 < c0)
    (hN:∀ s:List Int,s.length=t.sts.length→(∀ i,i < t.sts.length→elt s i=1 ∨ elt s i=2)→¬ most < shN s→crL t (elt s) ≠ []) :
    ∀ (k d:Nat),k≤d→∀ (s:List Int) (q:List Rn) (v:AV) (h:AH),Ok94 t most s→cntZ s < k→q.length+2 ^ k < 4999→c0≤h.clk→h.at_ b=some ⟨1,[[v]]⟩→SlA c0 h v 4 (q.map Rn.row)→W94 t most b c0 k d s q h:=by
  intro k
  induction k with
  | zero=>intro d _ s q v h _ hc;exact absurd hc (Nat.not_lt_zero _)
  | succ k ih =>
    intro d hd s q v h hs hcz hq hch hb hS
    have h2k:1≤(2:Nat) ^ (k+1):=Nat.one_le_two_pow
    by_cases hm:most < shN s
    · exact w94_many t most b c0 k d s q h v hT hs (by omega) hbc hch hb hS hm
    cases hx:crL t (elt s) with
    | cons x l=>exact w94_full t most b c0 k d s q h v hT hs (by omega) hbc hch hb hS hm hx
    | nil =>
      cases hu:und t s with
      | none =>
        refine absurd hx (hN s hs.len (fun i hi=>?_) hm)
        have h1:=hs.val i hi
        have h2:¬ elt s i=0:=fun e=>by
          unfold und at hu
          rw [List.find?_eq_none] at hu
          exact hu i (List.mem_range.2 hi) (decide_eq_true e)
        omega
      | some i =>
        obtain ⟨hi,hz⟩:=und_is hu
        obtain ⟨d,rfl⟩:∃ d',d=d'+1:=⟨d - 1,by omega⟩
        exact w94_split t most b c0 k d s q h v hT hs (by omega) hbc hch hb hS hm hx hi hu hq fun w q' v' g hw hq' hg1 hg2 hg3=>ih d (by omega) _ q' v' g (hs.set hi hw) (by have:=cntZ_set s i w (by rw [hs.len];exact hi) hz (by omega);omega) hq' hg1 hg2 hg3
theorem und_first {t:Tw} {s:List Int} {i:Nat} (h:und t s=some i):∀ j,j < i→¬ elt s j=0:=by
  unfold und at h
  rw [List.find?_eq_some_iff_getElem] at h
  obtain ⟨_,k,hk,e,h2⟩:=h
  rw [List.getElem_range] at e
  subst e
  intro j hj
  have:=h2 j hj
  rw [List.getElem_range] at this
  simpa using this
theorem c97 (s:List Int) (hl:s.length≤1000):Pure Try.prog 97 [.lst 1 (s.map iv)] (fun v=>v=.int .i64 (shN s)):=by
  intro h
  have hb:=fun i=>shF_bd (elt s) i
  refine ACalls.forget (ACalls.of tab mixed Try.call97 Try.func97 rfl (fi:=⟨19,[],[],none,[]⟩) rfl rfl (Nat.le_of_ble_eq_true rfl) (by decide) ?_)
  unfold startA
  repeat' (first|refine st_seq_reg rfl (by first|(simp only[go_sem];rfl)|rfl) (by first|(simp only[go_sem];rfl)|rfl) ?_|refine st_op ?_|refine st_det rfl (by simp (disch:=omega) only[go_sem,wr_i64,if_yes,if_no,↓reduceIte,reduceAdd,reduceMul,reduceEqDiff,Nat.reduceBEq,reduceLeDiff];rfl) ?_|refine st_nil ?_|refine st_seq ?_|refine st_block ?_)
  refine st_loopC (α:=Nat) tab mixed [] [] (by repeat (first|exact trivial|refine ⟨rfl,?_⟩)) [] [] (by repeat (first|exact trivial|refine ⟨rfl,?_⟩)) (fun i=>[(4,.int .i64 (i:Nat)),(3,.int .i64 (shF (elt s) i))]) [(0,_)] (fun _=>[]) [] (fun i=>i≤s.length) (fun i=>s.length - i) (by decide) 0 (Nat.zero_le _) (by (try simp only[go_sem]);repeat' (first|exact trivial|refine And.intro ?_ ?_|rfl|(simp (disch:=omega) only[go_sem,if_yes,if_no,↓reduceIte,reduceAdd,reduceMul,reduceEqDiff,Nat.reduceBEq,reduceLeDiff];rfl)|(simp (disch:=omega) only[go_sem,if_yes,if_no,↓reduceIte,reduceAdd,reduceMul,reduceEqDiff,Nat.reduceBEq,reduceLeDiff]))) (by (try simp only[go_sem]);repeat' (first|exact trivial|refine And.intro ?_ ?_|rfl|(simp (disch:=omega) only[go_sem,if_yes,if_no,↓reduceIte,reduceAdd,reduceMul,reduceEqDiff,Nat.reduceBEq,reduceLeDiff];rfl)|(simp (disch:=omega) only[go_sem,if_yes,if_no,↓reduceIte,reduceAdd,reduceMul,reduceEqDiff,Nat.reduceBEq,reduceLeDiff]))) (by first|(simp only[go_sem];rfl)|rfl) (by intro n;simp only[go_sem];rfl) ?_
  rintro i c hi1 hc
  simp only[go_sem]
  have hbi:=hb i
  have hnx:shF (elt s) (i+1)=shF (elt s) i+(if elt s i=2 then 1 else 0):=rfl
  by_cases hi:i < s.length
  case pos =>
    by_cases h2:elt s i=2
    · rw [if_pos h2] at hnx
      repeat' (first|refine st_seq_reg rfl (by first|(simp only[go_sem,length_map,h2];rfl)|rfl) (by first|(simp only[go_sem,length_map,h2];rfl)|rfl) ?_|refine st_reg rfl (by first|(simp only[go_sem,length_map,h2];rfl)|rfl) (by first|(simp only[go_sem,length_map,h2];rfl)|rfl) ?_|refine st_op ?_|refine st_det rfl (by simp (disch:=omega) only[go_sem,wr_i64,if_yes,if_no,↓reduceIte,reduceAdd,reduceMul,reduceEqDiff,Nat.reduceBEq,reduceLeDiff,length_map,h2];rfl) ?_|refine st_condT rfl ?_|(refine st_condS rfl ?_ ?_ <;> intro hg <;> (try simp only[decide_eq_true_eq,decide_eq_false_iff_not,Bool.not_eq_true',Bool.not_eq_false'] at hg))|refine st_nil ?_|refine st_tN ?_|refine st_seq ?_|refine st_block ?_|refine st_skip ?_|refine st_exit ?_|refine st_ret ?_|refine st_tE ?_|refine st_bN ?_|refine st_bH ?_)
      all_goals try (exfalso;omega)
      refine ⟨i+1,by show i+1≤_;omega,by show s.length - (i+1) < s.length - i;omega,(by (try (try simp only[hnx]));repeat' (first|exact trivial|refine And.intro ?_ ?_|rfl|(simp (disch:=omega) only[go_sem,if_yes,if_no,↓reduceIte,reduceAdd,reduceMul,reduceEqDiff,Nat.reduceBEq,reduceLeDiff];rfl)|(simp (disch:=omega) only[go_sem,if_yes,if_no,↓reduceIte,reduceAdd,reduceMul,reduceEqDiff,Nat.reduceBEq,reduceLeDiff]))),(by (try (try simp only[hnx]));repeat' (first|exact trivial|refine And.intro ?_ ?_|rfl|(simp (disch:=omega) only[go_sem,if_yes,if_no,↓reduceIte,reduceAdd,reduceMul,reduceEqDiff,Nat.reduceBEq,reduceLeDiff];rfl)|(simp (disch:=omega) only[go_sem,if_yes,if_no,↓reduceIte,reduceAdd,reduceMul,reduceEqDiff,Nat.reduceBEq,reduceLeDiff]))),rfl,(by first|exact HOld.of _ (by omega)|exact HOld.put _ _ _ (by omega))⟩
    · rw [if_neg h2,Int.add_zero] at hnx
      repeat' (first|refine st_seq_reg rfl (by first|(simp only[go_sem,length_map];rfl)|rfl) (by first|(simp only[go_sem,length_map];rfl)|rfl) ?_|refine st_reg rfl (by first|(simp only[go_sem,length_map];rfl)|rfl) (by first|(simp only[go_sem,length_map];rfl)|rfl) ?_|refine st_op ?_|refine st_det rfl (by simp (disch:=omega) only[go_sem,wr_i64,if_yes,if_no,↓reduceIte,reduceAdd,reduceMul,reduceEqDiff,Nat.reduceBEq,reduceLeDiff,length_map];rfl) ?_|(refine st_condS rfl ?_ ?_ <;> intro hg <;> (try simp only[decide_eq_true_eq,decide_eq_false_iff_not,Bool.not_eq_true',Bool.not_eq_false'] at hg))|refine st_nil ?_|refine st_tN ?_|refine st_seq ?_|refine st_block ?_|refine st_skip ?_|refine st_exit ?_|refine st_ret ?_|refine st_tE ?_|refine st_bN ?_|refine st_bH ?_)
      all_goals try (exfalso;omega)
      refine ⟨i+1,by show i+1≤_;omega,by show s.length - (i+1) < s.length - i;omega,(by (try (try simp only[hnx]));repeat' (first|exact trivial|refine And.intro ?_ ?_|rfl|(simp (disch:=omega) only[go_sem,if_yes,if_no,↓reduceIte,reduceAdd,reduceMul,reduceEqDiff,Nat.reduceBEq,reduceLeDiff];rfl)|(simp (disch:=omega) only[go_sem,if_yes,if_no,↓reduceIte,reduceAdd,reduceMul,reduceEqDiff,Nat.reduceBEq,reduceLeDiff]))),(by (try (try simp only[hnx]));repeat' (first|exact trivial|refine And.intro ?_ ?_|rfl|(simp (disch:=omega) only[go_sem,if_yes,if_no,↓reduceIte,reduceAdd,reduceMul,reduceEqDiff,Nat.reduceBEq,reduceLeDiff];rfl)|(simp (disch:=omega) only[go_sem,if_yes,if_no,↓reduceIte,reduceAdd,reduceMul,reduceEqDiff,Nat.reduceBEq,reduceLeDiff]))),rfl,(by first|exact HOld.of _ (by omega)|exact HOld.put _ _ _ (by omega))⟩
  obtain rfl:i=s.length:=by omega
  repeat' (first|refine st_seq_reg rfl (by first|(simp only[go_sem,length_map];rfl)|rfl) (by first|(simp only[go_sem,length_map];rfl)|rfl) ?_|refine st_reg rfl (by first|(simp only[go_sem,length_map];rfl)|rfl) (by first|(simp only[go_sem,length_map];rfl)|rfl) ?_|refine st_op ?_|refine st_det rfl (by simp (disch:=omega) only[go_sem,wr_i64,if_yes,if_no,↓reduceIte,reduceAdd,reduceMul,reduceEqDiff,Nat.reduceBEq,reduceLeDiff,length_map];rfl) ?_|(refine st_condS rfl ?_ ?_ <;> intro hg <;> (try simp only[decide_eq_true_eq,decide_eq_false_iff_not,Bool.not_eq_true',Bool.not_eq_false'] at hg))|refine st_nil ?_|refine st_tN ?_|refine st_seq ?_|refine st_block ?_|refine st_skip ?_|refine st_exit ?_|refine st_ret ?_|refine st_tE ?_|refine st_bN ?_|refine st_bH ?_)
  all_goals try (exfalso;omega)
  simp (disch:=omega) only[AEnd,Try.results97,aresK,fin,go_sem,↓reduceIte,reduceEqDiff,reduceAdd,reduceLeDiff,if_yes,if_no,implies_true,true_and,and_true,List.reverse_cons,List.reverse_nil]
  rfl
theorem c98 (s:List Int) (i:Nat) (w:Int) (hl:s.length≤1000) (hi:i < s.length):Pure Try.prog 98 [.lst 1 (s.map iv),.int .i64 (i:Nat),.int .i64 w] (fun v=>v=.lst 1 ((s.set i w).map iv)):=by
  refine Pure.give Try.call98 fun h hall=>?_
  have hset:(s.map iv).set i [.int .i64 w]=(s.set i w).map iv:=by rw [List.map_set];rfl
  refine ACalls.of tab mixed Try.call98 Try.func98 rfl (fi:=⟨16,[],[],none,[]⟩) rfl rfl (Nat.le_of_ble_eq_true rfl) (by decide) ?_
  unfold startA
  repeat' (first|refine st_seq_reg rfl (by first|(simp only[go_sem,length_map,big,Nat.zero_add,hset];rfl)|rfl) (by first|(simp only[go_sem,length_map,big,Nat.zero_add,hset];rfl)|rfl) ?_|refine st_op ?_|refine st_det rfl (by simp (disch:=omega) only[go_sem,wr_i64,if_yes,if_no,↓reduceIte,reduceAdd,reduceMul,reduceEqDiff,Nat.reduceBEq,reduceLeDiff,length_map,big,Nat.zero_add,hset];rfl) ?_|refine st_heap rfl (by simp (disch:=omega) only[go_sem,wr_i64,if_yes,if_no,↓reduceIte,reduceAdd,reduceMul,reduceEqDiff,Nat.reduceBEq,reduceLeDiff,length_map,big,Nat.zero_add,hset];rfl) ?_|refine st_store (by simp (disch:=omega) only[go_sem,wr_i64,if_yes,if_no,↓reduceIte,reduceAdd,reduceMul,reduceEqDiff,Nat.reduceBEq,reduceLeDiff,length_map,big,Nat.zero_add,hset];rfl) ?_|refine st_append (by simp (disch:=omega) only[go_sem,wr_i64,if_yes,if_no,↓reduceIte,reduceAdd,reduceMul,reduceEqDiff,Nat.reduceBEq,reduceLeDiff,length_map,big,Nat.zero_add,hset];rfl) ?_|refine st_nil ?_|refine st_ret ?_)
  all_goals try (exfalso;omega)
  simp (disch:=omega) only[AEnd,Try.results98,aresK,fin,go_sem,↓reduceIte,reduceEqDiff,reduceAdd,reduceLeDiff,if_yes,if_no,implies_true,true_and,and_true,List.reverse_cons,List.reverse_nil]
  have nb3:∀ b':Bid,b'.1 < h.clk→¬ b'=(h.clk+1,8):=fun b' hb'=>ne_fst hb' (by show h.clk≤h.clk+1;omega)
  have nb10:∀ b':Bid,b'.1 < h.clk→¬ b'=(h.clk+1,10):=fun b' hb'=>ne_fst hb' (by show h.clk≤h.clk+1;omega)
  refine ⟨fun b' hb'=>by simp only[nb3 b' hb',nb10 b' hb',↓reduceIte],.inr ⟨(h.clk+1,10),_,by show h.clk≤h.clk+1;omega,by simp only[go_sem,↓reduceIte] <;> rfl,?_⟩⟩
  simp only[frz]
  rw [if_pos ⟨trivial,by simp⟩,List.drop_zero,List.take_of_length_le (by simp)]
theorem c26s (a:List Rn) (ha:a.length≤1000000):Pure Try.prog 26 [.lst 4 (a.map Rn.row),.lst 4 (a.map Rn.row)] (fun v=>v=.bool true):=by
  intro h
  refine ACalls.forget (ACalls.of tab mixed Try.call26 Try.func26 rfl (fi:=⟨31,[],[],none,[(5,[0,0,3,7,0,0,48,112,255,511],[(0,false),(1,false),(2,false),(3,true),(4,false),(5,false),(6,false),(7,true),(8,false),(9,false)])]⟩) rfl rfl (Nat.le_of_ble_eq_true rfl) (by decide) ?_)
  unfold startA
  repeat' (first|refine st_seq_reg rfl (by first|(simp only[go_sem,length_map,decide_true];rfl)|rfl) (by first|(simp only[go_sem,length_map,decide_true];rfl)|rfl) ?_|refine st_op ?_|refine st_det rfl (by simp (disch:=omega) only[go_sem,wr_i64,if_yes,if_no,↓reduceIte,reduceAdd,reduceMul,reduceEqDiff,Nat.reduceBEq,reduceLeDiff,length_map,decide_true];rfl) ?_|refine st_nil ?_|refine st_seq ?_|refine st_block ?_)
  all_goals try (exfalso;omega)
  refine st_loopC (α:=Nat) tab mixed [] [] (by repeat (first|exact trivial|refine ⟨rfl,?_⟩)) [] [] (by repeat (first|exact trivial|refine ⟨rfl,?_⟩)) (fun i=>[(6,.int .i64 (i:Nat)),(5,.bool true)]) [(0,_),(1,_)] (fun _=>[]) [] (fun i=>i≤a.length) (fun i=>a.length - i) (by decide) 0 (Nat.zero_le _) (by (try simp only[go_sem]);repeat' (first|exact trivial|refine And.intro ?_ ?_|rfl|(simp (disch:=omega) only[go_sem,if_yes,if_no,↓reduceIte,reduceAdd,reduceMul,reduceEqDiff,Nat.reduceBEq,reduceLeDiff];rfl)|(simp (disch:=omega) only[go_sem,if_yes,if_no,↓reduceIte,reduceAdd,reduceMul,reduceEqDiff,Nat.reduceBEq,reduceLeDiff]))) (by (try simp only[go_sem]);repeat' (first|exact trivial|refine And.intro ?_ ?_|rfl|(simp (disch:=omega) only[go_sem,if_yes,if_no,↓reduceIte,reduceAdd,reduceMul,reduceEqDiff,Nat.reduceBEq,reduceLeDiff];rfl)|(simp (disch:=omega) only[go_sem,if_yes,if_no,↓reduceIte,reduceAdd,reduceMul,reduceEqDiff,Nat.reduceBEq,reduceLeDiff]))) (by first|(simp only[go_sem];rfl)|rfl) (by intro n;simp only[go_sem];rfl) ?_
  rintro i c hi1 hc
  simp only[go_sem]
  by_cases hi:i < a.length
  case pos =>
    repeat' (first|refine st_seq_reg rfl (by first|(simp only[go_sem,length_map,decide_true];rfl)|rfl) (by first|(simp only[go_sem,length_map,decide_true];rfl)|rfl) ?_|refine st_reg rfl (by first|(simp only[go_sem,length_map,decide_true];rfl)|rfl) (by first|(simp only[go_sem,length_map,decide_true];rfl)|rfl) ?_|refine st_draw rfl (by first|(simp only[go_sem,length_map,decide_true];rfl)|rfl) (by first|(simp only[go_sem,length_map,decide_true];rfl)|rfl) ?_|refine st_op ?_|refine st_det rfl (by simp (disch:=omega) only[go_sem,wr_i64,if_yes,if_no,↓reduceIte,reduceAdd,reduceMul,reduceEqDiff,Nat.reduceBEq,reduceLeDiff,length_map,decide_true];rfl) ?_|refine st_dop rfl ?_|refine st_gT rfl rfl rfl ?_|(refine st_condS rfl ?_ ?_ <;> intro hg <;> (try simp only[decide_eq_true_eq,decide_eq_false_iff_not,Bool.not_eq_true',Bool.not_eq_false'] at hg))|refine st_nil ?_|refine st_dnil ?_|refine st_tN ?_|refine st_seq ?_|refine st_block ?_|refine st_skip ?_|refine st_exit ?_|refine st_ret ?_|refine st_tE ?_|refine st_bN ?_|refine st_bH ?_)
    all_goals try (exfalso;omega)
    refine ⟨i+1,by show i+1≤_;omega,by show a.length - (i+1) < a.length - i;omega,(by repeat' (first|exact trivial|refine And.intro ?_ ?_|rfl|(simp (disch:=omega) only[go_sem,if_yes,if_no,↓reduceIte,reduceAdd,reduceMul,reduceEqDiff,Nat.reduceBEq,reduceLeDiff];rfl)|(simp (disch:=omega) only[go_sem,if_yes,if_no,↓reduceIte,reduceAdd,reduceMul,reduceEqDiff,Nat.reduceBEq,reduceLeDiff]))),(by repeat' (first|exact trivial|refine And.intro ?_ ?_|rfl|(simp (disch:=omega) only[go_sem,if_yes,if_no,↓reduceIte,reduceAdd,reduceMul,reduceEqDiff,Nat.reduceBEq,reduceLeDiff];rfl)|(simp (disch:=omega) only[go_sem,if_yes,if_no,↓reduceIte,reduceAdd,reduceMul,reduceEqDiff,Nat.reduceBEq,reduceLeDiff]))),rfl,(by first|exact HOld.of _ (by omega)|exact HOld.put _ _ _ (by omega))⟩
  obtain rfl:i=a.length:=by omega
  repeat' (first|refine st_seq_reg rfl (by first|(simp only[go_sem,length_map];rfl)|rfl) (by first|(simp only[go_sem,length_map];rfl)|rfl) ?_|refine st_reg rfl (by first|(simp only[go_sem,length_map];rfl)|rfl) (by first|(simp only[go_sem,length_map];rfl)|rfl) ?_|refine st_draw rfl (by first|(simp only[go_sem,length_map];rfl)|rfl) (by first|(simp only[go_sem,length_map];rfl)|rfl) ?_|refine st_op ?_|refine st_det rfl (by simp (disch:=omega) only[go_sem,wr_i64,if_yes,if_no,↓reduceIte,reduceAdd,reduceMul,reduceEqDiff,Nat.reduceBEq,reduceLeDiff,length_map];rfl) ?_|refine st_dop rfl ?_|refine st_gT rfl rfl rfl ?_|(refine st_condS rfl ?_ ?_ <;> intro hg <;> (try simp only[decide_eq_true_eq,decide_eq_false_iff_not,Bool.not_eq_true',Bool.not_eq_false'] at hg))|refine st_nil ?_|refine st_dnil ?_|refine st_tN ?_|refine st_seq ?_|refine st_block ?_|refine st_skip ?_|refine st_exit ?_|refine st_ret ?_|refine st_tE ?_|refine st_bN ?_|refine st_bH ?_)
  all_goals try (exfalso;omega)
  simp (disch:=omega) only[AEnd,Try.results26,aresK,fin,go_sem,↓reduceIte,reduceEqDiff,reduceAdd,reduceLeDiff,if_yes,if_no,implies_true,true_and,and_true,List.reverse_cons,List.reverse_nil]
end Go.Proofs.Ythjbfdfhblloiaa
