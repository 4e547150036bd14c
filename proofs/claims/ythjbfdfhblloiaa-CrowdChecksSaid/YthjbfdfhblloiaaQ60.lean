/- Contracts of functions that the claim reaches: what each call gives, told in our own logic. Conditions: those of each theorem. -/
import Derived.Test.YthjbfdfhblloiaaQ80
import Derived.Test.YthjbfdfhblloiaaW11
import Derived.Test.YthjbfdfhblloiaaW14
import Derived.Test.YthjbfdfhblloiaaQ14
import Derived.Test.YthjbfdfhblloiaaBaseD
import Derived.Test.YthjbfdfhblloiaaQ24
import Derived.Test.YthjbfdfhblloiaaQ29
import Derived.Test.YthjbfdfhblloiaaQ74
import Derived.Test.YthjbfdfhblloiaaBaseC
import Derived.Test.YthjbfdfhblloiaaQ31
import Derived.Test.YthjbfdfhblloiaaQS
open Nat (reduceAdd reduceMul reduceEqDiff reduceLeDiff)
open List (length_map)
set_option linter.all false
set_option linter.unusedSimpArgs false
set_option linter.unusedVariables false
namespace Go.Proofs.Ythjbfdfhblloiaa
open Go.Av
attribute [local irreducible] thenA blockA awp awpOps awpD awp1
set_option maxHeartbeats 8000000
set_option maxRecDepth 20000
theorem c24 (t:Tw) (most:Int) (p:List Rn) (hp:p.length≤1000000):Pure Try.prog 24 [t.av,.int .i64 most,.lst 4 (p.map Rn.row)] (fun v=>v=provedV t most p):=by
  have k52:=c52 t
  have k65:=c65 most 0 12
  have ht0:t.av=.agg t.cells:=rfl
  intro h
  by_cases h0:chkE t=0
  case neg =>
    refine ACalls.forget (ACalls.of tab mixed Try.call24 Try.func24 rfl (fi:=⟨36,[],[3],none,[(6,[0,0,0,4,12,28,0,127,255,511,511,1023,4095],[(0,true),(1,false),(2,false),(3,true),(4,false),(5,false),(6,false),(7,false),(8,false),(9,false),(10,false),(11,false),(12,false)])]⟩) rfl rfl (Nat.le_of_ble_eq_true rfl) (by decide) ?_)
    unfold startA
    simp only[go_sem]
    repeat' (first|refine st_seq_reg rfl (by first|(simp only[go_sem];rfl)|rfl) (by first|(simp only[go_sem];rfl)|rfl) ?_|refine st_op ?_|refine st_det rfl (by simp (disch:=omega) only[go_sem,wr_i64,if_yes,if_no,↓reduceIte,reduceAdd,reduceMul,reduceEqDiff,Nat.reduceBEq,reduceLeDiff];rfl) ?_|(refine st_pureE (by first|(simp (disch:=omega) only[go_sem];rfl)|rfl) rfl (k52) (by first|(simp only[go_sem];rfl)|rfl) (by intro n;first|(simp (disch:=omega) only[go_sem];rfl)|rfl) ?_;intro n hn)|(refine st_condS rfl ?_ ?_ <;> intro hg <;> (try simp only[decide_eq_true_eq,decide_eq_false_iff_not,Bool.not_eq_true',Bool.not_eq_false'] at hg))|refine st_nil ?_|refine st_tN ?_|refine st_seq ?_|refine st_skip ?_|refine st_ret ?_|refine st_tR ?_)
    all_goals try (exfalso;omega)
    simp (disch:=omega) only[AEnd,Try.results24,aresK,fin,go_sem,↓reduceIte,reduceEqDiff,reduceAdd,reduceLeDiff,if_yes,if_no,implies_true,true_and,and_true,List.reverse_cons,List.reverse_nil]
    unfold provedV;rw [if_pos h0]
  rw [h0] at k52
  have hT:=townOk h0
  have hsn:=hT.sn
  by_cases h1:0≤most∧most≤12
  case neg =>
    rw [decide_eq_false h1] at k65
    refine ACalls.forget (ACalls.of tab mixed Try.call24 Try.func24 rfl (fi:=⟨36,[],[3],none,[(6,[0,0,0,4,12,28,0,127,255,511,511,1023,4095],[(0,true),(1,false),(2,false),(3,true),(4,false),(5,false),(6,false),(7,false),(8,false),(9,false),(10,false),(11,false),(12,false)])]⟩) rfl rfl (Nat.le_of_ble_eq_true rfl) (by decide) ?_)
    unfold startA
    simp only[go_sem]
    repeat' (first|refine st_seq_reg rfl (by first|(simp only[go_sem];rfl)|rfl) (by first|(simp only[go_sem];rfl)|rfl) ?_|refine st_op ?_|refine st_det rfl (by simp (disch:=omega) only[go_sem,wr_i64,if_yes,if_no,↓reduceIte,reduceAdd,reduceMul,reduceEqDiff,Nat.reduceBEq,reduceLeDiff];rfl) ?_|(refine st_pureE (by first|(simp (disch:=omega) only[go_sem];rfl)|rfl) rfl (k52) (by first|(simp only[go_sem];rfl)|rfl) (by intro n;first|(simp (disch:=omega) only[go_sem];rfl)|rfl) ?_;intro n hn)|(refine st_pureE (by first|(simp (disch:=omega) only[go_sem];rfl)|rfl) rfl (k65) (by first|(simp only[go_sem];rfl)|rfl) (by intro n;first|(simp (disch:=omega) only[go_sem];rfl)|rfl) ?_;intro n hn)|refine st_condT rfl ?_|refine st_condF rfl ?_|refine st_nil ?_|refine st_tN ?_|refine st_seq ?_|refine st_skip ?_|refine st_ret ?_|refine st_tR ?_)
    all_goals try (exfalso;omega)
    simp (disch:=omega) only[AEnd,Try.results24,aresK,fin,go_sem,↓reduceIte,reduceEqDiff,reduceAdd,reduceLeDiff,if_yes,if_no,implies_true,true_and,and_true,List.reverse_cons,List.reverse_nil]
    unfold provedV;rw [if_neg (fun e=>e h0),if_pos h1]
  rw [decide_eq_true h1] at k65
  have hE:provedV t most p=.tup [.bool (provedB t most p),.int .i64 0]:=by
    unfold provedV;rw [if_neg (fun e=>e h0),if_neg (fun e=>e h1)]
  have hc:=c73 t most hT (t.sts.length+1) (List.replicate t.sts.length 0) p (by simp) (by rw [cntZ_rep];omega) hp
  unfold W73 pvdA at hc
  have hav:=t.av_still
  have hls:Still (.lst 4 (p.map Rn.row)):=Still.lst fun r hr x hx=>by
    obtain ⟨a,_,rfl⟩:=List.mem_map.1 hr
    unfold Rn.row at hx
    simp only[List.mem_cons,List.not_mem_nil,or_false] at hx
    rcases hx with rfl|rfl|rfl|rfl <;> exact Still.int _ _
  refine ACalls.forget (ACalls.of tab mixed Try.call24 Try.func24 rfl (fi:=⟨36,[],[3],none,[(6,[0,0,0,4,12,28,0,127,255,511,511,1023,4095],[(0,true),(1,false),(2,false),(3,true),(4,false),(5,false),(6,false),(7,false),(8,false),(9,false),(10,false),(11,false),(12,false)])]⟩) rfl rfl (Nat.le_of_ble_eq_true rfl) (by decide) ?_)
  unfold startA
  rw [ht0]
  unfold Tw.cells
  repeat' (first|refine st_seq_reg rfl (by first|(simp only[go_sem,length_map];rfl)|rfl) (by first|(simp only[go_sem,length_map];rfl)|rfl) ?_|refine st_seq_draw rfl (by first|(simp only[go_sem,length_map];rfl)|rfl) (by first|(simp only[go_sem,length_map];rfl)|rfl) ?_|refine st_op ?_|refine st_det rfl (by simp (disch:=omega) only[go_sem,wr_i64,if_yes,if_no,↓reduceIte,reduceAdd,reduceMul,reduceEqDiff,Nat.reduceBEq,reduceLeDiff,length_map];rfl) ?_|refine st_dop rfl ?_|refine st_heap rfl (by simp (disch:=omega) only[go_sem,wr_i64,if_yes,if_no,↓reduceIte,reduceAdd,reduceMul,reduceEqDiff,Nat.reduceBEq,reduceLeDiff,length_map];rfl) ?_|(refine st_pureE (by first|(simp (disch:=omega) only[go_sem,length_map];rfl)|rfl) rfl (k52) (by first|(simp only[go_sem,length_map];rfl)|rfl) (by intro n;first|(simp (disch:=omega) only[go_sem];rfl)|rfl) ?_;intro n hn)|(refine st_pureE (by first|(simp (disch:=omega) only[go_sem,length_map];rfl)|rfl) rfl (k65) (by first|(simp only[go_sem,length_map];rfl)|rfl) (by intro n;first|(simp (disch:=omega) only[go_sem];rfl)|rfl) ?_;intro n hn)|refine st_condF rfl ?_|refine st_nil ?_|refine st_tN ?_|refine st_seq ?_|refine st_skip ?_)
  all_goals try (exfalso;omega)
  rename_i n hn
  have hz:AV.lst 1 ((List.replicate t.sts.length (0:Int)).map iv)=frz (n,25) ⟨1,List.replicate t.sts.length [.int .i64 0]⟩ (.slc (n,25) 1 0 t.sts.length):=by
    have e:=frz_lst (b:=(n,25)) (z:=1) (l:=List.replicate t.sts.length [AV.int .i64 0])
    rw [List.length_replicate] at e
    rw [e,List.map_replicate];rfl
  refine st_callf (args:=[t.av,.int .i64 most,.slc (n,25) 1 0 t.sts.length,.lst 4 (p.map Rn.row)]) rfl rfl (ACalls.frzIn (b:=(n,25)) (k:=⟨1,List.replicate t.sts.length [.int .i64 0]⟩) (by simp only[go_sem,↓reduceIte]) (by show _=[frz _ _ t.av,.int .i64 most,frz _ _ (.slc (n,25) 1 0 t.sts.length),frz _ _ (.lst 4 (p.map Rn.row))];rw [hav,← hz,hls]) (hc _)) ?_
  rintro v1 g1 ⟨⟨n2,hn2,rfl⟩,hv⟩
  simp only[go_sem] at hn2
  have hold:∀ b':Bid,b'.1 < h.clk→¬ b'=(n,25):=fun b' hb'=>ne_fst hb' (by show h.clk≤n;omega)
  have hE2:provedV t most p=.tup [.bool (decide (pvd t most (t.sts.length+1) (List.replicate t.sts.length 0) p=some [])),.int .i64 0]:=hE
  rw [hE2]
  generalize pvd t most (t.sts.length+1) (List.replicate t.sts.length 0) p=o at *
  match o,hv with
  | some r,hv =>
    obtain rfl:v1=_:=hv
    have hd:decide (some r=some [])=decide ((r.length:Int)=0):=by
      cases r with
      | nil=>rfl
      | cons a b=>rw [decide_eq_false (by simp),decide_eq_false (by simp;omega)]
    rw [hd]
    repeat' (first|refine st_seq_reg rfl (by first|(simp only[go_sem,length_map];rfl)|rfl) (by first|(simp only[go_sem,length_map];rfl)|rfl) ?_|refine st_op ?_|refine st_det rfl (by simp (disch:=omega) only[go_sem,wr_i64,if_yes,if_no,↓reduceIte,reduceAdd,reduceMul,reduceEqDiff,Nat.reduceBEq,reduceLeDiff,length_map];rfl) ?_|refine st_dop rfl ?_|refine st_gT rfl rfl rfl ?_|refine st_nil ?_|refine st_dnil ?_|refine st_ret ?_)
    all_goals try (exfalso;omega)
    all_goals
      simp (disch:=omega) only[AEnd,Try.results24,aresK,fin,go_sem,↓reduceIte,reduceEqDiff,reduceAdd,reduceLeDiff,if_yes,if_no,implies_true,true_and,and_true,List.reverse_cons,List.reverse_nil]
      exact fun b' hb'=>by rw [if_neg (hold b' hb')]
  | none,⟨q,hq⟩ =>
    subst hq
    have hd:decide ((none:Option (List Rn))=some [])=false:=rfl
    rw [hd]
    repeat' (first|refine st_seq_reg rfl (by first|(simp only[go_sem,length_map];rfl)|rfl) (by first|(simp only[go_sem,length_map];rfl)|rfl) ?_|refine st_op ?_|refine st_det rfl (by simp (disch:=omega) only[go_sem,wr_i64,if_yes,if_no,↓reduceIte,reduceAdd,reduceMul,reduceEqDiff,Nat.reduceBEq,reduceLeDiff,length_map];rfl) ?_|refine st_dop rfl ?_|refine st_gF rfl rfl rfl ?_|refine st_nil ?_|refine st_dnil ?_|refine st_ret ?_)
    all_goals try (exfalso;omega)
    all_goals
      simp (disch:=omega) only[AEnd,Try.results24,aresK,fin,go_sem,↓reduceIte,reduceEqDiff,reduceAdd,reduceLeDiff,if_yes,if_no,implies_true,true_and,and_true,List.reverse_cons,List.reverse_nil]
      exact fun b' hb'=>by rw [if_neg (hold b' hb')]
end Go.Proofs.Ythjbfdfhblloiaa

namespace Go.Proofs.Ythjbfdfhblloiaa
open Go.Av
set_option maxRecDepth 20000
theorem TwLe.some {u t:Tw} (h:TwLe u t) (s:Nat→Int) {i:Nat} (hi:i < t.gs.length) {q st:Int} (k:someB u s (gp u.gs i) q st=true):someB t s (gp t.gs i) q st=true:=by
  have g:=h.g i hi
  obtain ⟨c,h1,h2,h3⟩:=someB_iff.1 k
  exact someB_iff.2 ⟨c,by have:=g.alo;omega,by have:=g.ahi;omega,by rw [← plc_congr h.sts s g];exact h3⟩
end Go.Proofs.Ythjbfdfhblloiaa

namespace Go.Proofs.Ythjbfdfhblloiaa
open Go.Av
attribute [local irreducible] thenA blockA awp awpOps awpD awp1
set_option maxHeartbeats 8000000
set_option maxRecDepth 20000
def MapIs (t:Tw) (s:Nat→Int) (g:Gp) (st:Int) (n:Nat) (L:List (Int × AV)):Prop:=∀ q:Int,aget L q=if someN t s g q st n=true then some (.bool true) else none
theorem MapIs.next {t:Tw} {s:Nat→Int} {g:Gp} {st:Int} {n:Nat} {L:List (Int × AV)} (h:MapIs t s g st n L):MapIs t s g st (n+1) (aset L (plc t s g (g.alo+(n:Nat)) st) (.bool true)):=by
  intro q
  rw [aget_aset,h q,someN_next]
  by_cases e:q=plc t s g (g.alo+(n:Nat)) st
  · rw [if_pos e,e];simp
  · rw [if_neg e,decide_eq_false (fun e1=>e e1.symm),Bool.or_false]
end Go.Proofs.Ythjbfdfhblloiaa

namespace Go.Proofs.Ythjbfdfhblloiaa
open Go.Av
set_option maxRecDepth 20000
def pend (t:Tw) (c:List Int) (to:Int) (n i:Nat) (q:Int):Bool:=(List.range i).any fun j=>!clB c j && decide (0≤oth (sx t.sts j) q) && decide (dst t c to (oth (sx t.sts j) q)=some n)
end Go.Proofs.Ythjbfdfhblloiaa

namespace Go.Proofs.Ythjbfdfhblloiaa
open Go.Av
attribute [local irreducible] thenA blockA awp awpOps awpD awp1
set_option maxHeartbeats 8000000
set_option maxRecDepth 20000
structure OwS where
  i:Nat
  v:AV
  g:AH
structure Tw.lens (t:Tw):Prop where
  r:t.rooms.length≤1000
  s:t.sts.length≤1000
  g:t.gs.length≤1000
  p:∀ i,i < t.gs.length→(gp t.gs i).path.length≤1000
theorem c22h (t:Tw) (ht:t.lens) (h:AH):ACalls Try.prog 22 [t.av] h (fun v h'=>∃ (b1 b2:Nat × Nat) (gv:AV),v=.agg [.slc b1 1 0 t.rooms.length,.slc b2 2 0 t.sts.length,gv,.int .i64 t.steps]∧(∀ b':Nat × Nat,b'.1 < h.clk→h'.at_ b'=h.at_ b')∧h'.lp=h.lp∧h.clk≤b2.1∧b2.1 < b1.1∧b1.1 < h'.clk∧h'.at_ b1=some ⟨1,t.rooms.map iv⟩∧h'.at_ b2=some ⟨2,t.sts.map Sx.row⟩∧SlA (b1.1+1) h' gv 7 (t.gs.map Gp.row)):=by
  have hr:=ht.r
  have hs:=ht.s
  have hg:=ht.g
  have ht0:t.av=.agg t.cells:=rfl
  refine ACalls.of tab mixed Try.call22 Try.func22 rfl (fi:=⟨39,[1,2,5],[35,1000001],none,[(1,[0,1,3,0,0,16,63,55,255,511,1023],[(0,false),(1,true),(4,false),(5,true),(2,false),(7,false),(3,false),(6,false),(8,false),(9,false),(10,false)])]⟩) rfl rfl (Nat.le_of_ble_eq_true rfl) (by decide) ?_
  unfold startA
  rw [ht0]
  unfold Tw.cells
  repeat' (first|refine st_seq_reg rfl (by first|(simp only[go_sem];rfl)|rfl) (by first|(simp only[go_sem];rfl)|rfl) ?_|refine st_op ?_|refine st_loc rfl (by simp (disch:=omega) only[go_sem,wr_i64,if_yes,if_no,↓reduceIte,reduceAdd,reduceMul,reduceEqDiff,Nat.reduceBEq,reduceLeDiff];rfl) ?_|refine st_nil ?_|refine st_seq ?_)
  refine st_free ?_
  refine st_drawL tab mixed (f2:=⟨39,[1,2,5],[35],none,[(1,[0,1,3,0,0,16,63,55,255,511,1023],[(0,false),(1,true),(4,false),(5,true),(2,false),(7,false),(3,false),(6,false),(8,false),(9,false),(10,false)])]⟩) [3] rfl rfl (by first|(simp only[go_sem];rfl)|rfl) (by first|(simp only[go_sem];rfl)|rfl) (by first|(simp only[go_sem];rfl)|rfl) (by intro i o hi ho;obtain rfl:i=3:=(by simpa using hi);cases ho;exact ⟨9,2,rfl,rfl⟩) (by decide) ?_
  repeat' (first|refine st_seq_reg rfl (by first|(simp only[go_sem,length_map,big,Nat.zero_add];rfl)|rfl) (by first|(simp only[go_sem,length_map,big,Nat.zero_add];rfl)|rfl) ?_|refine st_op ?_|refine st_det rfl (by simp (disch:=omega) only[go_sem,wr_i64,if_yes,if_no,↓reduceIte,reduceAdd,reduceMul,reduceEqDiff,Nat.reduceBEq,reduceLeDiff,length_map,big,Nat.zero_add];rfl) ?_|refine st_dop rfl ?_|refine st_heap rfl (by simp (disch:=omega) only[go_sem,wr_i64,if_yes,if_no,↓reduceIte,reduceAdd,reduceMul,reduceEqDiff,Nat.reduceBEq,reduceLeDiff,length_map,big,Nat.zero_add];rfl) ?_|refine st_store (by simp (disch:=omega) only[go_sem,wr_i64,if_yes,if_no,↓reduceIte,reduceAdd,reduceMul,reduceEqDiff,Nat.reduceBEq,reduceLeDiff,length_map,big,Nat.zero_add];rfl) ?_|refine st_append (by simp (disch:=omega) only[go_sem,wr_i64,if_yes,if_no,↓reduceIte,reduceAdd,reduceMul,reduceEqDiff,Nat.reduceBEq,reduceLeDiff,length_map,big,Nat.zero_add];rfl) ?_|(refine st_callf rfl rfl (c28h t.rooms (by omega) _) ?_;rintro v h' ⟨bb,n,rfl,hb1,hb2,rfl⟩)|refine st_nil ?_|refine st_dnil ?_|refine st_tN ?_|refine st_seq ?_|refine st_block ?_)
  all_goals try (exfalso;omega)
  simp only[go_sem] at hb1
  have o12:∀ b':Nat × Nat,b'.1 < h.clk→¬ b'=(h.clk+1,12):=fun b' hb'=>ne_fst hb' (by show h.clk≤h.clk+1;omega)
  have o9:∀ b':Nat × Nat,b'.1 < h.clk→¬ b'=(h.clk+1,9):=fun b' hb'=>ne_fst hb' (by show h.clk≤h.clk+1;omega)
  have obb:∀ b':Nat × Nat,b'.1 < h.clk→¬ b'=bb:=fun b' hb'=>ne_fst hb' (by omega)
  have b12:¬ bb=(h.clk+1,12):=fun e=>by rw [e] at hb1;dsimp only at hb1;omega
  have b9:¬ bb=(h.clk+1,9):=fun e=>by rw [e] at hb1;dsimp only at hb1;omega
  refine st_loopH (α:=OwS) tab mixed [1] [_] (by repeat (first|exact trivial|refine ⟨rfl,?_⟩)) [2] [_] (by repeat (first|exact trivial|refine ⟨rfl,?_⟩)) (fun a=>[(4,.int .i64 (a.i:Nat))]) [(1,_),(2,_),(3,_)] (fun a=>[[.slc bb 1 0 t.rooms.length,.slc (h.clk+1,12) 2 0 t.sts.length,a.v,.int .i64 t.steps]]) [_] (fun a=>a.g) (fun a=>a.i≤t.gs.length∧(∀ b':Nat × Nat,b'.1 < h.clk→a.g.at_ b'=h.at_ b')∧a.g.lp=h.lp∧a.g.at_ bb=some ⟨1,t.rooms.map iv⟩∧a.g.at_ (h.clk+1,12)=some ⟨2,t.sts.map Sx.row⟩∧bb.1 < a.g.clk∧SlA (bb.1+1) a.g a.v 7 ((t.gs.take a.i).map Gp.row)) (fun a=>t.gs.length - a.i) (by decide) ⟨0,.nils,_⟩ (by refine ⟨Nat.zero_le _,fun b' hb'=>by simp only[go_sem,o12 b' hb',o9 b' hb',obb b' hb',↓reduceIte],rfl,by simp only[go_sem,b12,b9,↓reduceIte],by simp only[go_sem,↓reduceIte],by simp only[go_sem];omega,.inl ⟨rfl,rfl⟩⟩) (by (try simp only[go_sem]);repeat' (first|exact trivial|refine And.intro ?_ ?_|rfl|(simp (disch:=omega) only[go_sem,if_yes,if_no,↓reduceIte,reduceAdd,reduceMul,reduceEqDiff,Nat.reduceBEq,reduceLeDiff];rfl)|(simp (disch:=omega) only[go_sem,if_yes,if_no,↓reduceIte,reduceAdd,reduceMul,reduceEqDiff,Nat.reduceBEq,reduceLeDiff]))) (by (try simp only[go_sem]);repeat' (first|exact trivial|refine And.intro ?_ ?_|rfl|(simp (disch:=omega) only[go_sem,if_yes,if_no,↓reduceIte,reduceAdd,reduceMul,reduceEqDiff,Nat.reduceBEq,reduceLeDiff];rfl)|(simp (disch:=omega) only[go_sem,if_yes,if_no,↓reduceIte,reduceAdd,reduceMul,reduceEqDiff,Nat.reduceBEq,reduceLeDiff]))) (HOld.refl _) ?_
  rintro ⟨i,v,g⟩ d ⟨i1,i2,i3,i4,i5,i6,hS⟩ hd
  dsimp only at i1 i2 i3 i4 i5 i6 hS hd
  simp only[go_sem]
  by_cases hi:i < t.gs.length
  case neg =>
    obtain rfl:i=t.gs.length:=by omega
    rw [List.take_length] at hS
    have hnc:=hS.noL
    have hcc:=hS.cell
    repeat' (first|refine st_seq_reg rfl (by first|(simp only[go_sem,length_map];rfl)|rfl) (by first|(simp only[go_sem,length_map];rfl)|rfl) ?_|refine st_op ?_|refine st_det rfl (by simp (disch:=omega) only[go_sem,wr_i64,if_yes,if_no,↓reduceIte,reduceAdd,reduceMul,reduceEqDiff,Nat.reduceBEq,reduceLeDiff,length_map];rfl) ?_|refine st_loc rfl (by simp (disch:=omega) only[go_sem,wr_i64,if_yes,if_no,↓reduceIte,reduceAdd,reduceMul,reduceEqDiff,Nat.reduceBEq,reduceLeDiff,length_map];rfl) ?_|refine st_store (by simp (disch:=omega) only[go_sem,wr_i64,if_yes,if_no,↓reduceIte,reduceAdd,reduceMul,reduceEqDiff,Nat.reduceBEq,reduceLeDiff,length_map];rfl) ?_|(refine st_condS rfl ?_ ?_ <;> intro hg <;> (try simp only[decide_eq_true_eq,decide_eq_false_iff_not,Bool.not_eq_true',Bool.not_eq_false'] at hg))|refine st_nil ?_|refine st_tN ?_|refine st_seq ?_|refine st_block ?_|refine st_skip ?_|refine st_exit ?_|refine st_ret ?_|refine st_tE ?_|refine st_bH ?_)
    all_goals try (exfalso;omega)
    simp (disch:=omega) only[AEnd,Try.results22,aresK,fin,go_sem,↓reduceIte,reduceEqDiff,reduceAdd,reduceLeDiff,if_yes,if_no,implies_true,true_and,and_true,List.reverse_cons,List.reverse_nil]
    exact ⟨bb,_,_,rfl,i2,i3,by show h.clk≤h.clk+1;omega,by show h.clk+1 < bb.1;omega,by omega,i4,i5,hS.to (fun _ _ _ _ _=>rfl) (by simp only[go_sem];omega)⟩
  have hfu:=ht.p i hi
  have k28:=c28 (gp t.gs i).path (by omega)
  have htk:(t.gs.take (i+1)).map Gp.row=(t.gs.take i).map Gp.row ++ [(gp t.gs i).row]:=by
    rw [List.take_succ_eq_append_getElem hi,List.map_append];simp [gp,List.getD_eq_getElem?_getD,hi]
  have hlt:(t.gs.take i).length=i:=by rw [List.length_take];omega
  have hnc:=hS.noL
  have hcc:=hS.cell
  repeat' (first|refine st_seq_reg rfl (by first|(simp only[go_sem,length_map,hlt];rfl)|rfl) (by first|(simp only[go_sem,length_map,hlt];rfl)|rfl) ?_|refine st_reg rfl (by first|(simp only[go_sem,length_map,hlt];rfl)|rfl) (by first|(simp only[go_sem,length_map,hlt];rfl)|rfl) ?_|refine st_op ?_|refine st_det rfl (by simp (disch:=omega) only[go_sem,wr_i64,if_yes,if_no,↓reduceIte,reduceAdd,reduceMul,reduceEqDiff,Nat.reduceBEq,reduceLeDiff,length_map,hlt];rfl) ?_|refine st_loc rfl (by simp (disch:=omega) only[go_sem,wr_i64,if_yes,if_no,↓reduceIte,reduceAdd,reduceMul,reduceEqDiff,Nat.reduceBEq,reduceLeDiff,length_map,hlt];rfl) ?_|refine st_store (by simp (disch:=omega) only[go_sem,wr_i64,if_yes,if_no,↓reduceIte,reduceAdd,reduceMul,reduceEqDiff,Nat.reduceBEq,reduceLeDiff,length_map,hlt];rfl) ?_|(refine st_pureE (by first|(simp (disch:=omega) only[go_sem,length_map,hlt];rfl)|rfl) rfl (k28) (by first|(simp only[go_sem,length_map,hlt];rfl)|rfl) (by intro n;first|(simp (disch:=omega) only[go_sem];rfl)|rfl) ?_;intro n hn)|(refine st_appS (by intro h id x y;simp only[go_sem];rfl) rfl (by simp only[go_sem,length_map,hlt];rfl) (by simp only[go_sem,length_map,hlt];rfl) (by decide) hS (fun _ _ _=>rfl) (by omega) (by simp only[length_map,List.length_cons,List.length_nil,big,length_map,hlt];omega) (by omega) (by omega) ?_;intro v' g' hA)|(refine st_condS rfl ?_ ?_ <;> intro hg <;> (try simp only[decide_eq_true_eq,decide_eq_false_iff_not,Bool.not_eq_true',Bool.not_eq_false'] at hg))|refine st_nil ?_|refine st_tN ?_|refine st_seq ?_|refine st_block ?_|refine st_skip ?_|refine st_exit ?_|refine st_ret ?_|refine st_tE ?_|refine st_bH ?_)
  all_goals try (exfalso;omega)
  have hnv:=hA.nol
  have hcl:=hA.sl.cell
  have hcv:=cells_one hcl
  repeat' (first|refine st_reg rfl (by first|(simp only[go_sem,hnv,hcl,hcv];rfl)|rfl) (by first|(simp only[go_sem,hnv,hcl,hcv];rfl)|rfl) ?_|refine st_op ?_|refine st_det rfl (by simp (disch:=omega) only[go_sem,wr_i64,if_yes,if_no,↓reduceIte,reduceAdd,reduceMul,reduceEqDiff,Nat.reduceBEq,reduceLeDiff,hnv,hcl,hcv];rfl) ?_|refine st_store (by simp (disch:=omega) only[go_sem,wr_i64,if_yes,if_no,↓reduceIte,reduceAdd,reduceMul,reduceEqDiff,Nat.reduceBEq,reduceLeDiff,hnv,hcl,hcv];rfl) ?_|refine st_nil ?_|refine st_tN ?_|refine st_bN ?_)
  refine ⟨⟨i+1,v',_⟩,(by refine ⟨by show i+1≤t.gs.length;omega,fun b' hb'=>(hA.old b' (by omega)).trans (i2 b' hb'),hA.lp.trans i3,(hA.old bb (Nat.lt_succ_self _)).trans i4,(hA.old (h.clk+1,12) (by show h.clk+1 < bb.1+1;omega)).trans i5,by simp only[go_sem];omega,by rw [htk];exact hA.sl.to (fun _ _ _ _ _=>rfl) (by simp only[go_sem];omega)⟩),by show t.gs.length - (i+1) < t.gs.length - i;omega,(by repeat' (first|exact trivial|refine And.intro ?_ ?_|rfl|(simp (disch:=omega) only[go_sem,if_yes,if_no,↓reduceIte,reduceAdd,reduceMul,reduceEqDiff,Nat.reduceBEq,reduceLeDiff];rfl)|(simp (disch:=omega) only[go_sem,if_yes,if_no,↓reduceIte,reduceAdd,reduceMul,reduceEqDiff,Nat.reduceBEq,reduceLeDiff]))),(by repeat' (first|exact trivial|refine And.intro ?_ ?_|rfl|(simp (disch:=omega) only[go_sem,if_yes,if_no,↓reduceIte,reduceAdd,reduceMul,reduceEqDiff,Nat.reduceBEq,reduceLeDiff];rfl)|(simp (disch:=omega) only[go_sem,if_yes,if_no,↓reduceIte,reduceAdd,reduceMul,reduceEqDiff,Nat.reduceBEq,reduceLeDiff]))),rfl,HOld.refl _⟩
theorem frz_sx {b:Nat × Nat} {k:Blk} (l:List Sx):frz b k (.lst 2 (l.map Sx.row))=.lst 2 (l.map Sx.row):=by
  simp only[frz,frzss_map,List.map_map]
  congr 1
theorem frz_ne {b b1:Nat × Nat} {k:Blk} {z m:Nat} (h:b1 ≠ b):frz b k (.slc b1 z 0 m)=.slc b1 z 0 m:=by
  simp only[frz]
  rw [if_neg (fun hh=>h hh.1)]
theorem slA_frz {h0:Nat} {g:AH} {v:AV} {z:Nat} {l:List (List AV)} (hS:SlA h0 g v z l) {b:Nat × Nat} {k:Blk} (hb:b.1 < h0):frz b k v=v:=by
  rcases hS with ⟨rfl,_⟩|⟨b1,rfl,_,q3,_⟩
  · rfl
  · exact frz_ne (fun e=>by rw [e] at q3;omega)
theorem c22r (t:Tw) (ht:t.lens) (h:AH):ACalls Try.prog 22 [t.av] h (fun v h'=>∃ (b1:Nat × Nat) (gv:AV),v=.agg [.slc b1 1 0 t.rooms.length,.lst 2 (t.sts.map Sx.row),gv,.int .i64 t.steps]∧(∀ b':Nat × Nat,b'.1 < h.clk→h'.at_ b'=h.at_ b')∧h'.lp=h.lp∧h.clk≤b1.1∧b1.1 < h'.clk∧h'.at_ b1=some ⟨1,t.rooms.map iv⟩∧SlA (b1.1+1) h' gv 7 (t.gs.map Gp.row)):=by
  refine ACalls.old Try.call22 fun hall=>?_
  refine ((c22h t ht h).mono ?_).give
  rintro v h' ⟨b1,b2,gv,rfl,h1,h2,h3,h4,h5,h6,h7,hS⟩
  have hne:b1 ≠ b2:=fun e=>by rw [e] at h4;omega
  refine .inr ⟨b2,_,h7,?_,b1,gv,?_,fun b' hb'=>?_,h2,by omega,h5,?_,hS.to (fun b m e q3 q4=>?_) (Nat.le_refl _)⟩
  · cases e:h.at_ b2 with
    | none=>rfl
    | some k=>exact absurd (hall b2 k e) (by omega)
  · simp only[frz,frzs]
    rw [if_neg (fun hh=>hne hh.1),if_pos ⟨trivial,by simp⟩,slA_frz hS (by omega),List.drop_zero,List.take_of_length_le (by simp)]
  · simp only[go_sem]
    rw [if_neg (fun e=>by rw [e] at hb';omega)]
    exact h1 b' hb'
  · simp only[go_sem]
    rw [if_neg hne]
    exact h6
  · simp only[go_sem]
    rw [if_neg (fun e=>by rw [e] at q3;omega)]
theorem c22g (t:Tw) (ht:t.lens) (h:AH):ACalls Try.prog 22 [t.av] h (fun v h'=>∃ (gv:AV),v=.agg [.lst 1 (t.rooms.map iv),.lst 2 (t.sts.map Sx.row),gv,.int .i64 t.steps]∧(∀ b':Nat × Nat,b'.1 < h.clk→h'.at_ b'=h.at_ b')∧h'.lp=h.lp∧h.clk≤h'.clk∧SlA h.clk h' gv 7 (t.gs.map Gp.row)):=by
  refine ACalls.old Try.call22 fun hall=>?_
  refine ((c22r t ht h).mono ?_).give
  rintro v h' ⟨b1,gv,rfl,h1,h2,h3,h4,h5,hS⟩
  refine .inr ⟨b1,_,h5,?_,gv,?_,fun b' hb'=>?_,h2,by simp only[go_sem];omega,(hS.weak (by omega)).to (fun b m e q3 q4=>?_) (Nat.le_refl _)⟩
  · cases e:h.at_ b1 with
    | none=>rfl
    | some k=>exact absurd (hall b1 k e) (by omega)
  · have e2:=frz_sx (b:=b1) (k:=⟨1,t.rooms.map iv⟩) t.sts
    have e3:frz b1 ⟨1,t.rooms.map iv⟩ (.agg [.slc b1 1 0 t.rooms.length,.lst 2 (t.sts.map Sx.row),gv,.int .i64 t.steps])=.agg [frz b1 ⟨1,t.rooms.map iv⟩ (.slc b1 1 0 t.rooms.length),frz b1 ⟨1,t.rooms.map iv⟩ (.lst 2 (t.sts.map Sx.row)),frz b1 ⟨1,t.rooms.map iv⟩ gv,.int .i64 t.steps]:=by simp only[frz,frzs]
    rw [e3,e2,slA_frz hS (Nat.lt_succ_self _)]
    simp only[frz]
    rw [if_pos ⟨trivial,by simp⟩,List.drop_zero,List.take_of_length_le (by simp)]
  · simp only[go_sem]
    rw [if_neg (fun e=>by rw [e] at hb';omega)]
    exact h1 b' hb'
  · simp only[go_sem]
    have:=(hS.lt e).1
    rw [if_neg (fun e=>by rw [e] at this;omega)]
theorem c22 (t:Tw) (ht:t.lens):Pure Try.prog 22 [t.av] (fun v=>v=t.av):=by
  refine Pure.give Try.call22 fun h hall=>?_
  refine (c22g t ht h).mono ?_
  rintro v h' ⟨gv,rfl,h1,h2,h3,hS⟩
  refine ⟨h1,h2,?_⟩
  rcases hS with ⟨rfl,e⟩|⟨b1,rfl,q2,q3,q4⟩
  · refine .inl ⟨t.av,?_,rfl⟩
    unfold Tw.av
    rw [e]
    exact VLe.agg (by simp only[VLes];exact ⟨_,_,rfl,.refl _,_,_,rfl,.refl _,_,_,rfl,VLe.nils 7,_,_,rfl,.refl _,rfl⟩) rfl
  · refine .inr ⟨b1,_,q3,q2,?_⟩
    have e2:=frz_sx (b:=b1) (k:=⟨7,t.gs.map Gp.row⟩) t.sts
    have e1:frz b1 ⟨7,t.gs.map Gp.row⟩ (.lst 1 (t.rooms.map iv))=.lst 1 (t.rooms.map iv):=by
      simp only[frz,frzss_map,List.map_map]
      congr 1
    have e3:frz b1 ⟨7,t.gs.map Gp.row⟩ (.agg [.lst 1 (t.rooms.map iv),.lst 2 (t.sts.map Sx.row),.slc b1 7 0 (t.gs.map Gp.row).length,.int .i64 t.steps])=.agg [frz b1 ⟨7,t.gs.map Gp.row⟩ (.lst 1 (t.rooms.map iv)),frz b1 ⟨7,t.gs.map Gp.row⟩ (.lst 2 (t.sts.map Sx.row)),frz b1 ⟨7,t.gs.map Gp.row⟩ (.slc b1 7 0 (t.gs.map Gp.row).length),.int .i64 t.steps]:=by simp only[frz,frzs]
    rw [e3,e2,e1,frz_lst]
    rfl
end Go.Proofs.Ythjbfdfhblloiaa

namespace Go.Proofs.Ythjbfdfhblloiaa
open Go.Av
attribute [local irreducible] Shp
set_option maxRecDepth 20000
theorem shpSpan {d:Nat} {vs:List AV} (h:Shp Try.prog (d+2) 61 vs):∃ a b,vs=[.int .i64 a,.int .i64 b]:=by
  obtain ⟨parts,rfl,hl,hp⟩:=shp_struct Try.underlying61 h
  match parts,hl,hp with
  | [p0,p1],_,hp =>
    obtain ⟨a,rfl,_⟩:=shpInt (hp 0 _ p0 rfl rfl)
    obtain ⟨b,rfl,_⟩:=shpInt (hp 1 _ p1 rfl rfl)
    exact ⟨a,b,rfl⟩
theorem shpStreet {d:Nat} {vs:List AV} (h:Shp Try.prog (d+2) 103 vs):∃ x:Sx,vs=x.row:=by
  obtain ⟨parts,rfl,hl,hp⟩:=shp_struct Try.underlying103 h
  match parts,hl,hp with
  | [p0,p1],_,hp =>
    obtain ⟨a,rfl,_⟩:=shpInt (hp 0 _ p0 rfl rfl)
    obtain ⟨b,rfl,_⟩:=shpInt (hp 1 _ p1 rfl rfl)
    exact ⟨⟨a,b⟩,rfl⟩
def Gp.small (g:Gp):Prop:=g.path.length≤maxLen
theorem shpGroup {d:Nat} {vs:List AV} (h:Shp Try.prog (d+3) 63 vs):∃ x:Gp,vs=x.row∧x.small:=by
  obtain ⟨parts,rfl,hl,hp⟩:=shp_struct Try.underlying63 h
  match parts,hl,hp with
  | [p0,p1,p2,p3,p4],_,hp =>
    obtain ⟨a,b,rfl⟩:=shpSpan (hp 0 _ p0 rfl rfl)
    obtain ⟨c,e,rfl⟩:=shpSpan (hp 1 _ p1 rfl rfl)
    obtain ⟨f,rfl,_⟩:=shpInt (hp 2 _ p2 rfl rfl)
    obtain ⟨g,rfl,_⟩:=shpInt (hp 3 _ p3 rfl rfl)
    obtain ⟨l,rfl,hl⟩:=shpNums (hp 4 _ p4 rfl rfl)
    exact ⟨⟨a,b,c,e,f,g,l⟩,rfl,hl⟩
structure Tw.small (t:Tw):Prop where
  r:t.rooms.length≤maxLen
  s:t.sts.length≤maxLen
  g:t.gs.length≤maxLen
  p:∀ x ∈ t.gs,x.small
theorem shpTown {d:Nat} {vs:List AV} (h:Shp Try.prog (d+5) 26 vs):∃ t:Tw,AV.agg vs=t.av∧t.small:=by
  obtain ⟨parts,rfl,hl,hp⟩:=shp_struct Try.underlying26 h
  match parts,hl,hp with
  | [p0,p1,p2,p3],_,hp =>
    obtain ⟨a,rfl,h1⟩:=shpNums (hp 0 _ p0 rfl rfl)
    obtain ⟨b,rfl,h2,_⟩:=shp_slice (f:=Sx.row) (q:=fun _=>True) Try.underlying23 cel103 (hp 1 _ p1 rfl rfl) fun r hr=>by
      obtain ⟨x,e⟩:=shpStreet hr
      exact ⟨x,e,trivial⟩
    obtain ⟨c,rfl,h3,h4⟩:=shp_slice (f:=Gp.row) (q:=Gp.small) Try.underlying24 cel63 (hp 2 _ p2 rfl rfl) fun r hr=>shpGroup hr
    obtain ⟨e,rfl,_⟩:=shpInt (hp 3 _ p3 rfl rfl)
    exact ⟨⟨a,b,c,e⟩,rfl,⟨h1,h2,h3,h4⟩⟩
theorem shpReason {d:Nat} {vs:List AV} (h:Shp Try.prog (d+2) 29 vs):∃ x:Rn,vs=x.row:=by
  obtain ⟨parts,rfl,hl,hp⟩:=shp_struct Try.underlying29 h
  match parts,hl,hp with
  | [p0,p1,p2,p3],_,hp =>
    obtain ⟨a,rfl,_⟩:=shpInt (hp 0 _ p0 rfl rfl)
    obtain ⟨b,rfl,_⟩:=shpInt (hp 1 _ p1 rfl rfl)
    obtain ⟨c,rfl,_⟩:=shpInt (hp 2 _ p2 rfl rfl)
    obtain ⟨e,rfl,_⟩:=shpInt (hp 3 _ p3 rfl rfl)
    exact ⟨⟨a,b,c,e⟩,rfl⟩
theorem shpProof {d:Nat} {vs:List AV} (h:Shp Try.prog (d+3) 27 vs):∃ l:List Rn,vs=[.lst 4 (l.map Rn.row)]∧l.length≤maxLen:=by
  obtain ⟨l,e,h1,_⟩:=shp_slice (f:=Rn.row) (q:=fun _=>True) Try.underlying27 cel29 h fun r hr=>by
    obtain ⟨x,e⟩:=shpReason hr
    exact ⟨x,e,trivial⟩
  exact ⟨l,e,h1⟩
end Go.Proofs.Ythjbfdfhblloiaa

namespace Go.Proofs.Ythjbfdfhblloiaa
open Go.Av
attribute [local irreducible] thenA blockA awp awpOps awpD awp1
set_option maxHeartbeats 8000000
set_option maxRecDepth 20000
structure NotVast (t:Tw) (n:Int):Prop where
  r:t.rooms.length≤20
  s:t.sts.length≤20
  g:t.gs.length≤16
  p:∀ i,i < t.gs.length→(gp t.gs i).path.length≤20
  ok:chkE t=0→(t.sts.length:Int)≤n∧t.steps≤20
theorem NotVast.lens {t:Tw} {n:Int} (h:NotVast t n):t.lens:=⟨by have:=h.r;omega,by have:=h.s;omega,by have:=h.g;omega,fun i hi=>by have:=h.p i hi;omega⟩
theorem c14 (t:Tw) (n:Int) (hs:t.small):Pure Try.prog 14 [t.av,.int .i64 n] (fun v=>∃ r,v=.bool r∧(r=false→NotVast t n)):=by
  have h1:=hs.r
  have h2:=hs.s
  have h3:=hs.g
  have h4:∀ i,i < t.gs.length→(gp t.gs i).path.length≤maxLen:=fun i hi=>hs.p _ (gp_mem hi)
  unfold maxLen at h1 h2 h3 h4
  have k52:=c52 t
  have ht0:t.av=.agg t.cells:=rfl
  intro h
  refine ACalls.forget (ACalls.of tab mixed Try.call14 Try.func14 rfl (fi:=⟨52,[],[2],none,[]⟩) rfl rfl (Nat.le_of_ble_eq_true rfl) (by decide) ?_)
  unfold startA
  rw [ht0]
  unfold Tw.cells
  repeat' (first|refine st_seq_reg rfl (by first|(simp only[go_sem,length_map];rfl)|rfl) (by first|(simp only[go_sem,length_map];rfl)|rfl) ?_|refine st_op ?_|refine st_det rfl (by simp (disch:=omega) only[go_sem,wr_i64,if_yes,if_no,↓reduceIte,reduceAdd,reduceMul,reduceEqDiff,Nat.reduceBEq,reduceLeDiff,length_map];rfl) ?_|refine st_nil ?_|refine st_seq ?_|refine st_block ?_)
  refine st_loopC (α:=Nat) tab mixed [] [] (by repeat (first|exact trivial|refine ⟨rfl,?_⟩)) [] [] (by repeat (first|exact trivial|refine ⟨rfl,?_⟩)) (fun i=>[(5,.int .i64 (i:Nat))]) [(1,_),(2,_),(4,_)] (fun _=>[]) [] (fun i=>i≤t.gs.length∧∀ j,j < i→(gp t.gs j).path.length≤20) (fun i=>t.gs.length - i) (by decide) 0 ⟨Nat.zero_le _,fun j hj=>absurd hj (Nat.not_lt_zero _)⟩ (by (try simp only[go_sem]);repeat' (first|exact trivial|refine And.intro ?_ ?_|rfl|(simp (disch:=omega) only[go_sem,if_yes,if_no,↓reduceIte,reduceAdd,reduceMul,reduceEqDiff,Nat.reduceBEq,reduceLeDiff];rfl)|(simp (disch:=omega) only[go_sem,if_yes,if_no,↓reduceIte,reduceAdd,reduceMul,reduceEqDiff,Nat.reduceBEq,reduceLeDiff]))) (by (try simp only[go_sem]);repeat' (first|exact trivial|refine And.intro ?_ ?_|rfl|(simp (disch:=omega) only[go_sem,if_yes,if_no,↓reduceIte,reduceAdd,reduceMul,reduceEqDiff,Nat.reduceBEq,reduceLeDiff];rfl)|(simp (disch:=omega) only[go_sem,if_yes,if_no,↓reduceIte,reduceAdd,reduceMul,reduceEqDiff,Nat.reduceBEq,reduceLeDiff]))) (by first|(simp only[go_sem];rfl)|rfl) (by intro n;simp only[go_sem];rfl) ?_
  rintro i c ⟨i1,i2⟩ hc
  simp only[go_sem]
  by_cases hi:i < t.gs.length
  case pos =>
    have hp:=h4 i hi
    by_cases hl:(gp t.gs i).path.length≤20
    · repeat' (first|refine st_seq_reg rfl (by first|(simp only[go_sem,length_map];rfl)|rfl) (by first|(simp only[go_sem,length_map];rfl)|rfl) ?_|refine st_reg rfl (by first|(simp only[go_sem,length_map];rfl)|rfl) (by first|(simp only[go_sem,length_map];rfl)|rfl) ?_|refine st_op ?_|refine st_det rfl (by simp (disch:=omega) only[go_sem,wr_i64,if_yes,if_no,↓reduceIte,reduceAdd,reduceMul,reduceEqDiff,Nat.reduceBEq,reduceLeDiff,length_map];rfl) ?_|refine st_gT rfl rfl rfl ?_|refine st_gF rfl rfl rfl ?_|(refine st_gS rfl rfl ?_ ?_ <;> intro hg <;> (try simp only[decide_eq_true_eq,decide_eq_false_iff_not,Bool.not_eq_true',Bool.not_eq_false'] at hg))|refine st_condT rfl ?_|(refine st_condS rfl ?_ ?_ <;> intro hg <;> (try simp only[decide_eq_true_eq,decide_eq_false_iff_not,Bool.not_eq_true',Bool.not_eq_false'] at hg))|refine st_nil ?_|refine st_tN ?_|refine st_seq ?_|refine st_block ?_|refine st_skip ?_|refine st_exit ?_|refine st_ret ?_|refine st_tE ?_|refine st_tR ?_|refine st_bN ?_|refine st_bR ?_|refine st_bH ?_)
      all_goals try (exfalso;omega)
      refine ⟨i+1,⟨by show i+1≤_;omega,fun j hj=>by by_cases e:j=i;(rw [e];exact hl);(exact i2 j (by omega))⟩,by show t.gs.length - (i+1) < t.gs.length - i;omega,(by repeat' (first|exact trivial|refine And.intro ?_ ?_|rfl|(simp (disch:=omega) only[go_sem,if_yes,if_no,↓reduceIte,reduceAdd,reduceMul,reduceEqDiff,Nat.reduceBEq,reduceLeDiff];rfl)|(simp (disch:=omega) only[go_sem,if_yes,if_no,↓reduceIte,reduceAdd,reduceMul,reduceEqDiff,Nat.reduceBEq,reduceLeDiff]))),(by repeat' (first|exact trivial|refine And.intro ?_ ?_|rfl|(simp (disch:=omega) only[go_sem,if_yes,if_no,↓reduceIte,reduceAdd,reduceMul,reduceEqDiff,Nat.reduceBEq,reduceLeDiff];rfl)|(simp (disch:=omega) only[go_sem,if_yes,if_no,↓reduceIte,reduceAdd,reduceMul,reduceEqDiff,Nat.reduceBEq,reduceLeDiff]))),rfl,(by first|exact HOld.of _ (by omega)|exact HOld.put _ _ _ (by omega))⟩
    · repeat' (first|refine st_seq_reg rfl (by first|(simp only[go_sem,length_map];rfl)|rfl) (by first|(simp only[go_sem,length_map];rfl)|rfl) ?_|refine st_reg rfl (by first|(simp only[go_sem,length_map];rfl)|rfl) (by first|(simp only[go_sem,length_map];rfl)|rfl) ?_|refine st_op ?_|refine st_det rfl (by simp (disch:=omega) only[go_sem,wr_i64,if_yes,if_no,↓reduceIte,reduceAdd,reduceMul,reduceEqDiff,Nat.reduceBEq,reduceLeDiff,length_map];rfl) ?_|refine st_gT rfl rfl rfl ?_|refine st_gF rfl rfl rfl ?_|(refine st_gS rfl rfl ?_ ?_ <;> intro hg <;> (try simp only[decide_eq_true_eq,decide_eq_false_iff_not,Bool.not_eq_true',Bool.not_eq_false'] at hg))|refine st_condT rfl ?_|(refine st_condS rfl ?_ ?_ <;> intro hg <;> (try simp only[decide_eq_true_eq,decide_eq_false_iff_not,Bool.not_eq_true',Bool.not_eq_false'] at hg))|refine st_nil ?_|refine st_tN ?_|refine st_seq ?_|refine st_block ?_|refine st_skip ?_|refine st_exit ?_|refine st_ret ?_|refine st_tE ?_|refine st_tR ?_|refine st_bN ?_|refine st_bR ?_|refine st_bH ?_)
      all_goals try (exfalso;omega)
      simp (disch:=omega) only[AEnd,Try.results14,aresK,fin,go_sem,↓reduceIte,reduceEqDiff,reduceAdd,reduceLeDiff,if_yes,if_no,implies_true,true_and,and_true,List.reverse_cons,List.reverse_nil]
      exact ⟨true,rfl,fun e=>by cases e⟩
  obtain rfl:i=t.gs.length:=by omega
  repeat' (first|refine st_seq_reg rfl (by first|(simp only[go_sem,length_map];rfl)|rfl) (by first|(simp only[go_sem,length_map];rfl)|rfl) ?_|refine st_reg rfl (by first|(simp only[go_sem,length_map];rfl)|rfl) (by first|(simp only[go_sem,length_map];rfl)|rfl) ?_|refine st_op ?_|refine st_det rfl (by simp (disch:=omega) only[go_sem,wr_i64,if_yes,if_no,↓reduceIte,reduceAdd,reduceMul,reduceEqDiff,Nat.reduceBEq,reduceLeDiff,length_map];rfl) ?_|(refine st_pureE (by first|(simp (disch:=omega) only[go_sem,length_map];rfl)|rfl) rfl (k52) (by first|(simp only[go_sem,length_map];rfl)|rfl) (by intro n;first|(simp (disch:=omega) only[go_sem];rfl)|rfl) ?_;intro n hn)|refine st_gT rfl rfl rfl ?_|refine st_gF rfl rfl rfl ?_|(refine st_gS rfl rfl ?_ ?_ <;> intro hg <;> (try simp only[decide_eq_true_eq,decide_eq_false_iff_not,Bool.not_eq_true',Bool.not_eq_false'] at hg))|refine st_condT rfl ?_|(refine st_condS rfl ?_ ?_ <;> intro hg <;> (try simp only[decide_eq_true_eq,decide_eq_false_iff_not,Bool.not_eq_true',Bool.not_eq_false'] at hg))|refine st_nil ?_|refine st_tN ?_|refine st_seq ?_|refine st_block ?_|refine st_skip ?_|refine st_exit ?_|refine st_ret ?_|refine st_tE ?_|refine st_tR ?_|refine st_bN ?_|refine st_bR ?_|refine st_bH ?_)
  all_goals try (exfalso;omega)
  all_goals
    simp (disch:=omega) only[AEnd,Try.results14,aresK,fin,go_sem,↓reduceIte,reduceEqDiff,reduceAdd,reduceLeDiff,if_yes,if_no,implies_true,true_and,and_true,List.reverse_cons,List.reverse_nil]
    first
      | exact ⟨true,rfl,fun e=>by cases e⟩
      | exact ⟨false,rfl,fun e=>⟨by omega,by omega,by omega,i2,fun h0=>by omega⟩⟩
      | exact ⟨_,rfl,fun e=>⟨by omega,by omega,by omega,i2,fun h0=>by simp only[decide_eq_false_iff_not] at e;omega⟩⟩
end Go.Proofs.Ythjbfdfhblloiaa
