/- Contracts of functions that the claim reaches: what each call gives, told in our own logic. Conditions: those of each theorem. -/
import Derived.Test.YtaijkalhkgjakaaDoorG34
import Derived.Test.YtaijkalhkgjakaaDoorBaseD
open Nat (reduceAdd reduceMul reduceEqDiff reduceLeDiff)
open List (length_map)
set_option linter.all false
set_option linter.unusedSimpArgs false
set_option linter.unusedVariables false
namespace Go.Proofs.YtaijkalhkgjakaaDoor
open Go.Av
attribute [local irreducible] thenA blockA awp awpOps awpD awp1
set_option maxHeartbeats 8000000
set_option maxRecDepth 20000
def Rf.av (x:Rf):AV:=.agg [.lst 2 (x.plan.map Sf.row),.lst 1 (x.dn.map bv),.lst 1 (x.hands.map iv),.lst 1 (x.ready.map iv)]
@[go_sem] theorem Rf.av_eq (x:Rf):x.av=.agg [.lst 2 (x.plan.map Sf.row),.lst 1 (x.dn.map bv),.lst 1 (x.hands.map iv),.lst 1 (x.ready.map iv)]:=rfl
structure XB (S:Sp) (f:Nat) (x:Rf):Prop where
  pl:x.plan.length=S.js.length
  dl:x.dn.length=S.js.length
  hl:x.hands.length=S.ws.length
  rl:x.ready.length=7
  p:∀ i,0≤(pAt x.plan i).d∧(pAt x.plan i).d≤300
  h:∀ i,0≤x.hands.getD i 0∧x.hands.getD i 0≤30 * (10 - f:Nat)
  r:∀ i,0≤x.ready.getD i 0∧x.ready.getD i 0≤30 * (10 - f:Nat)
theorem XB.next {S:Sp} (hS:S.Ok) {f:Nat} {x:Rf} (h:XB S (f+1) x) (hf:f≤9) {job w:Nat} (hj:job < S.js.length) (hw:w < S.ws.length):XB S f (withR S.js x job w):=by
  have hji:=hS.j hj
  unfold Jb.Ok at hji
  have ej:S.j job=jOf S.js job:=rfl
  rw [ej] at hji
  have a:=h.h w
  have b:=h.r (jOf S.js job).f.toNat
  have e10:(10 - f:Nat)=(10 - (f+1):Nat)+1:=by omega
  refine ⟨by simp [withR,h.pl],by simp [withR,h.dl],by simp [withR,h.hl],by simp [withR,h.rl],fun i=>?_,fun i=>?_,fun i=>?_⟩
  · have e:pAt (withR S.js x job w).plan i=if i=job then ⟨w,max (x.hands.getD w 0) (x.ready.getD (jOf S.js job).f.toNat 0)⟩ else pAt x.plan i:=getD_set _ _ _ _ _ (by rw [h.pl];exact hj)
    rw [e]
    have:=h.p i
    split
    · dsimp only;omega
    · exact this
  · have e:(withR S.js x job w).hands.getD i 0=if i=w then max (x.hands.getD w 0) (x.ready.getD (jOf S.js job).f.toNat 0)+(jOf S.js job).d else x.hands.getD i 0:=getD_set _ _ _ _ _ (by rw [h.hl];exact hw)
    rw [e]
    have:=h.h i
    split <;> omega
  · have e:(withR S.js x job w).ready.getD i 0=if i=(jOf S.js job).f.toNat then max (x.hands.getD w 0) (x.ready.getD (jOf S.js job).f.toNat 0)+(jOf S.js job).d else x.ready.getD i 0:=getD_set _ _ _ _ _ (by rw [h.rl];omega)
    rw [e]
    have:=h.r i
    split <;> omega
theorem c102 (S:Sp) (x:Rf) (f job:Nat) (hX:XB S f x) (h7:S.js.length≤7) (hj:job < S.js.length):Pure Tryd.prog 102 [x.av,S.av,.int .i64 (job:Nat)] (fun v=>v=.bool (nextR S.js x job)):=by
  intro h
  have hdl:=hX.dl
  refine ACalls.forget (ACalls.of tab mixed Tryd.call102 Tryd.func102 rfl (fi:=⟨40,[],[3,4],none,[(4,[0,1,0,7,15,31,0,64,0,448,960,1984,4095,8191,16383,32767,16383,131071,262143,524287,1048575],[(0,false),(1,true),(2,false),(3,false),(4,false),(5,true),(6,false),(7,true),(8,false),(9,false),(10,false),(11,true),(12,false),(13,false),(14,false),(15,true),(16,false),(17,false),(18,true),(19,false),(20,false)])]⟩) rfl rfl (Nat.le_of_ble_eq_true rfl) (by decide) ?_)
  unfold startA
  try simp only[go_sem]
  repeat' (first|refine st_seq_reg rfl (by first|(simp only[go_sem];rfl)|rfl) (by first|(simp only[go_sem];rfl)|rfl) ?_|refine st_op ?_|refine st_det rfl (by simp (disch:=omega) only[go_sem,wr_i64,if_yes,if_no,↓reduceIte,reduceAdd,reduceMul,reduceEqDiff,Nat.reduceBEq,reduceLeDiff];rfl) ?_|refine st_nil ?_|refine st_seq ?_|refine st_block ?_)
  refine st_loopC (α:=Nat) tab mixed [] [] (by repeat (first|exact trivial|refine ⟨rfl,?_⟩)) [] [] (by repeat (first|exact trivial|refine ⟨rfl,?_⟩)) (fun i=>[(7,.int .i64 (i:Nat))]) [(1,_),(2,_),(3,_),(4,_),(6,_)] (fun _=>[]) [] (fun i=>i≤job∧∀ k,k < i→((jOf S.js k).f=(jOf S.js job).f→x.dn.getD k false=true)) (fun i=>job - i) (by decide) 0 ⟨Nat.zero_le _,fun k hk=>absurd hk (Nat.not_lt_zero k)⟩ (by (try simp only[go_sem]);repeat' (first|exact trivial|refine And.intro ?_ ?_|rfl|(simp (disch:=omega) only[go_sem,if_yes,if_no,↓reduceIte,reduceAdd,reduceMul,reduceEqDiff,Nat.reduceBEq,reduceLeDiff];rfl)|(simp (disch:=omega) only[go_sem,if_yes,if_no,↓reduceIte,reduceAdd,reduceMul,reduceEqDiff,Nat.reduceBEq,reduceLeDiff]))) (by (try simp only[go_sem]);repeat' (first|exact trivial|refine And.intro ?_ ?_|rfl|(simp (disch:=omega) only[go_sem,if_yes,if_no,↓reduceIte,reduceAdd,reduceMul,reduceEqDiff,Nat.reduceBEq,reduceLeDiff];rfl)|(simp (disch:=omega) only[go_sem,if_yes,if_no,↓reduceIte,reduceAdd,reduceMul,reduceEqDiff,Nat.reduceBEq,reduceLeDiff]))) (by first|(simp only[go_sem];rfl)|rfl) (by intro n;simp only[go_sem];rfl) ?_
  rintro i c ⟨hi,hno⟩ hc
  simp only[go_sem]
  by_cases hij:i < job
  case neg =>
    have ei:i=job:=by omega
    subst ei
    repeat' (first|refine st_seq_reg rfl (by first|(simp only[go_sem,length_map];rfl)|rfl) (by first|(simp only[go_sem,length_map];rfl)|rfl) ?_|refine st_reg rfl (by first|(simp only[go_sem,length_map];rfl)|rfl) (by first|(simp only[go_sem,length_map];rfl)|rfl) ?_|refine st_seq_draw rfl (by first|(simp only[go_sem,length_map];rfl)|rfl) (by first|(simp only[go_sem,length_map];rfl)|rfl) ?_|refine st_op ?_|refine st_det rfl (by simp (disch:=omega) only[go_sem,wr_i64,if_yes,if_no,↓reduceIte,reduceAdd,reduceMul,reduceEqDiff,Nat.reduceBEq,reduceLeDiff,length_map];rfl) ?_|refine st_dop rfl ?_|refine st_dgT rfl rfl rfl rfl ?_|(refine st_condS rfl ?_ ?_ <;> intro hg <;> (try simp only[decide_eq_true_eq,decide_eq_false_iff_not,Bool.not_eq_true',Bool.not_eq_false'] at hg))|refine st_nil ?_|refine st_dnil ?_|refine st_tN ?_|refine st_seq ?_|refine st_block ?_|refine st_skip ?_|refine st_exit ?_|refine st_ret ?_|refine st_tE ?_|refine st_tR ?_|refine st_bN ?_|refine st_bR ?_|refine st_bH ?_)
    all_goals try (exfalso;omega)
    simp (disch:=omega) only[AEnd,Tryd.results102,aresK,fin,go_sem,↓reduceIte,reduceEqDiff,reduceAdd,reduceLeDiff,if_yes,if_no,implies_true,true_and,and_true,List.reverse_cons,List.reverse_nil]
    unfold nextR
    have:(List.range i).all (fun k=>!(decide ((jOf S.js k).f=(jOf S.js i).f) && !x.dn.getD k false))=true:=by
      rw [List.all_eq_true]
      intro k hk
      have:=hno k (List.mem_range.1 hk)
      by_cases q:(jOf S.js k).f=(jOf S.js i).f
      · rw [this q];simp
      · simp [q]
    rw [this];simp
  by_cases hq:(jOf S.js i).f=(jOf S.js job).f
  · cases hd:x.dn.getD i false with
    | true =>
      repeat' (first|refine st_seq_reg rfl (by first|(simp only[go_sem,length_map,hd];rfl)|rfl) (by first|(simp only[go_sem,length_map,hd];rfl)|rfl) ?_|refine st_reg rfl (by first|(simp only[go_sem,length_map,hd];rfl)|rfl) (by first|(simp only[go_sem,length_map,hd];rfl)|rfl) ?_|refine st_seq_draw rfl (by first|(simp only[go_sem,length_map,hd];rfl)|rfl) (by first|(simp only[go_sem,length_map,hd];rfl)|rfl) ?_|refine st_op ?_|refine st_det rfl (by simp (disch:=omega) only[go_sem,wr_i64,if_yes,if_no,↓reduceIte,reduceAdd,reduceMul,reduceEqDiff,Nat.reduceBEq,reduceLeDiff,length_map,hd];rfl) ?_|refine st_dop rfl ?_|refine st_dgT rfl rfl rfl rfl ?_|refine st_dgF rfl rfl rfl ?_|(refine st_dgS rfl rfl ?_ ?_ <;> intro hg <;> (try simp only[decide_eq_true_eq,decide_eq_false_iff_not,Bool.not_eq_true',Bool.not_eq_false'] at hg))|refine st_condF rfl ?_|(refine st_condS rfl ?_ ?_ <;> intro hg <;> (try simp only[decide_eq_true_eq,decide_eq_false_iff_not,Bool.not_eq_true',Bool.not_eq_false'] at hg))|refine st_nil ?_|refine st_dnil ?_|refine st_tN ?_|refine st_seq ?_|refine st_block ?_|refine st_skip ?_|refine st_exit ?_|refine st_ret ?_|refine st_tE ?_|refine st_bN ?_|refine st_bH ?_)
      all_goals try (exfalso;omega)
      refine ⟨i+1,⟨by omega,stepP hno (fun _=>hd)⟩,by omega,(by repeat' (first|exact trivial|refine And.intro ?_ ?_|rfl|(simp (disch:=omega) only[go_sem,if_yes,if_no,↓reduceIte,reduceAdd,reduceMul,reduceEqDiff,Nat.reduceBEq,reduceLeDiff];rfl)|(simp (disch:=omega) only[go_sem,if_yes,if_no,↓reduceIte,reduceAdd,reduceMul,reduceEqDiff,Nat.reduceBEq,reduceLeDiff]))),(by repeat' (first|exact trivial|refine And.intro ?_ ?_|rfl|(simp (disch:=omega) only[go_sem,if_yes,if_no,↓reduceIte,reduceAdd,reduceMul,reduceEqDiff,Nat.reduceBEq,reduceLeDiff];rfl)|(simp (disch:=omega) only[go_sem,if_yes,if_no,↓reduceIte,reduceAdd,reduceMul,reduceEqDiff,Nat.reduceBEq,reduceLeDiff]))),rfl,(by first|exact HOld.of _ (by omega)|exact HOld.put _ _ _ (by omega))⟩
    | false =>
      repeat' (first|refine st_seq_reg rfl (by first|(simp only[go_sem,length_map,hd];rfl)|rfl) (by first|(simp only[go_sem,length_map,hd];rfl)|rfl) ?_|refine st_reg rfl (by first|(simp only[go_sem,length_map,hd];rfl)|rfl) (by first|(simp only[go_sem,length_map,hd];rfl)|rfl) ?_|refine st_seq_draw rfl (by first|(simp only[go_sem,length_map,hd];rfl)|rfl) (by first|(simp only[go_sem,length_map,hd];rfl)|rfl) ?_|refine st_op ?_|refine st_det rfl (by simp (disch:=omega) only[go_sem,wr_i64,if_yes,if_no,↓reduceIte,reduceAdd,reduceMul,reduceEqDiff,Nat.reduceBEq,reduceLeDiff,length_map,hd];rfl) ?_|refine st_dop rfl ?_|refine st_dgT rfl rfl rfl rfl ?_|refine st_dgF rfl rfl rfl ?_|(refine st_dgS rfl rfl ?_ ?_ <;> intro hg <;> (try simp only[decide_eq_true_eq,decide_eq_false_iff_not,Bool.not_eq_true',Bool.not_eq_false'] at hg))|refine st_condT rfl ?_|refine st_condF rfl ?_|(refine st_condS rfl ?_ ?_ <;> intro hg <;> (try simp only[decide_eq_true_eq,decide_eq_false_iff_not,Bool.not_eq_true',Bool.not_eq_false'] at hg))|refine st_nil ?_|refine st_dnil ?_|refine st_tN ?_|refine st_seq ?_|refine st_block ?_|refine st_skip ?_|refine st_exit ?_|refine st_ret ?_|refine st_tE ?_|refine st_tR ?_|refine st_bN ?_|refine st_bR ?_|refine st_bH ?_)
      all_goals try (exfalso;omega)
      simp (disch:=omega) only[AEnd,Tryd.results102,aresK,fin,go_sem,↓reduceIte,reduceEqDiff,reduceAdd,reduceLeDiff,if_yes,if_no,implies_true,true_and,and_true,List.reverse_cons,List.reverse_nil]
      unfold nextR
      have:(List.range job).all (fun k=>!(decide ((jOf S.js k).f=(jOf S.js job).f) && !x.dn.getD k false))=false:=by
        rw [List.all_eq_false]
        exact ⟨i,List.mem_range.2 hij,by rw [hd];simp [hq]⟩
      rw [this];rfl
  · repeat' (first|refine st_seq_reg rfl (by first|(simp only[go_sem,length_map];rfl)|rfl) (by first|(simp only[go_sem,length_map];rfl)|rfl) ?_|refine st_reg rfl (by first|(simp only[go_sem,length_map];rfl)|rfl) (by first|(simp only[go_sem,length_map];rfl)|rfl) ?_|refine st_seq_draw rfl (by first|(simp only[go_sem,length_map];rfl)|rfl) (by first|(simp only[go_sem,length_map];rfl)|rfl) ?_|refine st_op ?_|refine st_det rfl (by simp (disch:=omega) only[go_sem,wr_i64,if_yes,if_no,↓reduceIte,reduceAdd,reduceMul,reduceEqDiff,Nat.reduceBEq,reduceLeDiff,length_map];rfl) ?_|refine st_dop rfl ?_|refine st_dgT rfl rfl rfl rfl ?_|refine st_dgF rfl rfl rfl ?_|(refine st_dgS rfl rfl ?_ ?_ <;> intro hg <;> (try simp only[decide_eq_true_eq,decide_eq_false_iff_not,Bool.not_eq_true',Bool.not_eq_false'] at hg))|refine st_condF rfl ?_|(refine st_condS rfl ?_ ?_ <;> intro hg <;> (try simp only[decide_eq_true_eq,decide_eq_false_iff_not,Bool.not_eq_true',Bool.not_eq_false'] at hg))|refine st_nil ?_|refine st_dnil ?_|refine st_tN ?_|refine st_seq ?_|refine st_block ?_|refine st_skip ?_|refine st_exit ?_|refine st_ret ?_|refine st_tE ?_|refine st_tR ?_|refine st_bN ?_|refine st_bR ?_|refine st_bH ?_)
    all_goals try (exfalso;omega)
    refine ⟨i+1,⟨by omega,stepP hno (fun e=>absurd e hq)⟩,by omega,(by repeat' (first|exact trivial|refine And.intro ?_ ?_|rfl|(simp (disch:=omega) only[go_sem,if_yes,if_no,↓reduceIte,reduceAdd,reduceMul,reduceEqDiff,Nat.reduceBEq,reduceLeDiff];rfl)|(simp (disch:=omega) only[go_sem,if_yes,if_no,↓reduceIte,reduceAdd,reduceMul,reduceEqDiff,Nat.reduceBEq,reduceLeDiff]))),(by repeat' (first|exact trivial|refine And.intro ?_ ?_|rfl|(simp (disch:=omega) only[go_sem,if_yes,if_no,↓reduceIte,reduceAdd,reduceMul,reduceEqDiff,Nat.reduceBEq,reduceLeDiff];rfl)|(simp (disch:=omega) only[go_sem,if_yes,if_no,↓reduceIte,reduceAdd,reduceMul,reduceEqDiff,Nat.reduceBEq,reduceLeDiff]))),rfl,(by first|exact HOld.of _ (by omega)|exact HOld.put _ _ _ (by omega))⟩
theorem tSf (l:List Sf):Still (.lst 2 (l.map Sf.row)):=Still.lst fun r hr x hx=>by
  obtain ⟨y,_,rfl⟩:=List.mem_map.1 hr
  simp only[Sf.row,List.mem_cons,List.not_mem_nil,or_false] at hx
  rcases hx with rfl|rfl <;> exact fun _ _=>rfl
theorem tBv (l:List Bool):Still (.lst 1 (l.map bv)):=Still.lst fun r hr x hx=>by
  obtain ⟨y,_,rfl⟩:=List.mem_map.1 hr
  simp only[bv,List.mem_cons,List.not_mem_nil,or_false] at hx
  rcases hx with rfl;exact fun _ _=>rfl
theorem tIv (l:List Int):Still (.lst 1 (l.map iv)):=Still.lst fun r hr x hx=>by
  obtain ⟨y,_,rfl⟩:=List.mem_map.1 hr
  simp only[iv,List.mem_cons,List.not_mem_nil,or_false] at hx
  rcases hx with rfl;exact fun _ _=>rfl
theorem frz_ne {b b':Bid} {k:Blk} {e i n:Nat} (h:b' ≠ b):frz b k (.slc b' e i n)=.slc b' e i n:=by
  simp only[frz];rw [if_neg (fun q=>h q.1)]
theorem c103 (S:Sp) (hS:S.Ok) (x:Rf) (f job w:Nat) (hX:XB S f x) (hj:job < S.js.length) (hw:w < S.ws.length):Pure Tryd.prog 103 [x.av,S.av,.int .i64 (job:Nat),.int .i64 (w:Nat)] (fun v=>v=(withR S.js x job w).av):=by
  intro h
  have hpl:=hX.pl
  have hdl:=hX.dl
  have hhl:=hX.hl
  have hrl:=hX.rl
  have h7:=hS.n7
  have h4:=hS.m4
  have hji:=hS.j hj
  unfold Jb.Ok at hji
  have ej:S.j job=jOf S.js job:=rfl
  rw [ej] at hji
  have a:=hX.h w
  have b:=hX.r (jOf S.js job).f.toNat
  have a10:((10 - f:Nat):Int)≤10:=by omega
  refine ACalls.forget ?_
  refine ACalls.ofS tab Tryd.call103 Tryd.func103 rfl (fi:=⟨75,[8,9,11],[4,5,1000003],none,[(2,[0,1,0,7,15,0,32,0,128,480,992,2047,4095],[(0,false),(1,true),(2,false),(3,false),(4,true),(5,false),(6,true),(7,false),(8,true),(9,false),(10,true),(11,false),(12,false)]),(3,[0,0,2,7,0,0,32,127,0,0,512,2047,0,0,8192,32767,65535,0,262143],[(0,false),(1,false),(2,true),(5,false),(6,true),(9,false),(10,true),(13,false),(14,true),(17,false),(3,false),(4,false),(7,false),(8,false),(11,false),(12,false),(15,false),(16,false),(18,false)]),(4,[0,1,0,0,8,0,0,0,192,455,967,2047,4095],[(0,false),(1,true),(2,false),(3,false),(4,true),(5,false),(6,false),(7,false),(8,false),(9,false),(10,true),(11,false),(12,false)]),(5,[0,1,0,0,8,0,32,0,0,256,896,0,0,4096,14336,1927,34695,131071,262143],[(0,false),(1,true),(2,false),(3,false),(4,true),(5,false),(6,true),(7,false),(8,false),(9,true),(10,false),(11,false),(12,false),(13,true),(14,false),(15,false),(16,true),(17,false),(18,false)])]⟩) rfl rfl (Nat.le_of_ble_eq_true rfl) ?_
  unfold startA
  try simp only[go_sem]
  refine asem_seq (fi:=⟨75,[8,9,11],[4,5,1000003],none,[(2,[0,1,0,7,15,0,32,0,128,480,992,2047,4095],[(0,false),(1,true),(2,false),(3,false),(4,true),(5,false),(6,true),(7,false),(8,true),(9,false),(10,true),(11,false),(12,false)]),(3,[0,0,2,7,0,0,32,127,0,0,512,2047,0,0,8192,32767,65535,0,262143],[(0,false),(1,false),(2,true),(5,false),(6,true),(9,false),(10,true),(13,false),(14,true),(17,false),(3,false),(4,false),(7,false),(8,false),(11,false),(12,false),(15,false),(16,false),(18,false)]),(4,[0,1,0,0,8,0,0,0,192,455,967,2047,4095],[(0,false),(1,true),(2,false),(3,false),(4,true),(5,false),(6,false),(7,false),(8,false),(9,false),(10,true),(11,false),(12,false)]),(5,[0,1,0,0,8,0,32,0,0,256,896,0,0,4096,14336,1927,34695,131071,262143],[(0,false),(1,true),(2,false),(3,false),(4,true),(5,false),(6,true),(7,false),(8,false),(9,true),(10,false),(11,false),(12,false),(13,true),(14,false),(15,false),(16,true),(17,false),(18,false)])]⟩) tab mixed (by decide) ?_
  repeat' (first|refine st_reg rfl (by first|(simp only[go_sem];rfl)|rfl) (by first|(simp only[go_sem];rfl)|rfl) ?_|refine st_op ?_|refine st_det rfl (by simp (disch:=omega) only[go_sem,wr_i64,if_yes,if_no,↓reduceIte,reduceAdd,reduceMul,reduceEqDiff,Nat.reduceBEq,reduceLeDiff];rfl) ?_|refine st_loc rfl (by simp (disch:=omega) only[go_sem,wr_i64,if_yes,if_no,↓reduceIte,reduceAdd,reduceMul,reduceEqDiff,Nat.reduceBEq,reduceLeDiff];rfl) ?_|refine st_nil ?_|refine st_tN ?_)
  refine asem_seq (fi:=⟨75,[8,9,11],[4,5,1000003],none,[(2,[0,1,0,7,15,0,32,0,128,480,992,2047,4095],[(0,false),(1,true),(2,false),(3,false),(4,true),(5,false),(6,true),(7,false),(8,true),(9,false),(10,true),(11,false),(12,false)]),(3,[0,0,2,7,0,0,32,127,0,0,512,2047,0,0,8192,32767,65535,0,262143],[(0,false),(1,false),(2,true),(5,false),(6,true),(9,false),(10,true),(13,false),(14,true),(17,false),(3,false),(4,false),(7,false),(8,false),(11,false),(12,false),(15,false),(16,false),(18,false)]),(4,[0,1,0,0,8,0,0,0,192,455,967,2047,4095],[(0,false),(1,true),(2,false),(3,false),(4,true),(5,false),(6,false),(7,false),(8,false),(9,false),(10,true),(11,false),(12,false)]),(5,[0,1,0,0,8,0,32,0,0,256,896,0,0,4096,14336,1927,34695,131071,262143],[(0,false),(1,true),(2,false),(3,false),(4,true),(5,false),(6,true),(7,false),(8,false),(9,true),(10,false),(11,false),(12,false),(13,true),(14,false),(15,false),(16,true),(17,false),(18,false)])]⟩) tab mixed (by decide) ?_
  repeat' (first|refine st_reg rfl (by first|(simp only[go_sem,length_map];rfl)|rfl) (by first|(simp only[go_sem,length_map];rfl)|rfl) ?_|refine st_op ?_|refine st_det rfl (by simp (disch:=omega) only[go_sem,wr_i64,if_yes,if_no,↓reduceIte,reduceAdd,reduceMul,reduceEqDiff,Nat.reduceBEq,reduceLeDiff,length_map];rfl) ?_|refine st_loc rfl (by simp (disch:=omega) only[go_sem,wr_i64,if_yes,if_no,↓reduceIte,reduceAdd,reduceMul,reduceEqDiff,Nat.reduceBEq,reduceLeDiff,length_map];rfl) ?_|refine st_store (by simp (disch:=omega) only[go_sem,wr_i64,if_yes,if_no,↓reduceIte,reduceAdd,reduceMul,reduceEqDiff,Nat.reduceBEq,reduceLeDiff,length_map];rfl) ?_|refine st_nil ?_|refine st_tN ?_)
  all_goals try (exfalso;omega)
  refine asem_seq (fi:=⟨75,[8,9,11],[4,5,1000003],none,[(2,[0,1,0,7,15,0,32,0,128,480,992,2047,4095],[(0,false),(1,true),(2,false),(3,false),(4,true),(5,false),(6,true),(7,false),(8,true),(9,false),(10,true),(11,false),(12,false)]),(3,[0,0,2,7,0,0,32,127,0,0,512,2047,0,0,8192,32767,65535,0,262143],[(0,false),(1,false),(2,true),(5,false),(6,true),(9,false),(10,true),(13,false),(14,true),(17,false),(3,false),(4,false),(7,false),(8,false),(11,false),(12,false),(15,false),(16,false),(18,false)]),(4,[0,1,0,0,8,0,0,0,192,455,967,2047,4095],[(0,false),(1,true),(2,false),(3,false),(4,true),(5,false),(6,false),(7,false),(8,false),(9,false),(10,true),(11,false),(12,false)]),(5,[0,1,0,0,8,0,32,0,0,256,896,0,0,4096,14336,1927,34695,131071,262143],[(0,false),(1,true),(2,false),(3,false),(4,true),(5,false),(6,true),(7,false),(8,false),(9,true),(10,false),(11,false),(12,false),(13,true),(14,false),(15,false),(16,true),(17,false),(18,false)])]⟩) tab mixed (by decide) ?_
  repeat' (first|refine st_draw rfl (by first|(simp only[go_sem,length_map];rfl)|rfl) (by first|(simp only[go_sem,length_map];rfl)|rfl) ?_|refine st_det rfl (by simp (disch:=omega) only[go_sem,wr_i64,if_yes,if_no,↓reduceIte,reduceAdd,reduceMul,reduceEqDiff,Nat.reduceBEq,reduceLeDiff,length_map];rfl) ?_|refine st_dop rfl ?_|refine st_dnil ?_|refine st_tN ?_)
  all_goals try (exfalso;omega)
  refine asem_seq (fi:=⟨75,[8,9,11],[4,5,1000003],none,[(2,[0,1,0,7,15,0,32,0,128,480,992,2047,4095],[(0,false),(1,true),(2,false),(3,false),(4,true),(5,false),(6,true),(7,false),(8,true),(9,false),(10,true),(11,false),(12,false)]),(3,[0,0,2,7,0,0,32,127,0,0,512,2047,0,0,8192,32767,65535,0,262143],[(0,false),(1,false),(2,true),(5,false),(6,true),(9,false),(10,true),(13,false),(14,true),(17,false),(3,false),(4,false),(7,false),(8,false),(11,false),(12,false),(15,false),(16,false),(18,false)]),(4,[0,1,0,0,8,0,0,0,192,455,967,2047,4095],[(0,false),(1,true),(2,false),(3,false),(4,true),(5,false),(6,false),(7,false),(8,false),(9,false),(10,true),(11,false),(12,false)]),(5,[0,1,0,0,8,0,32,0,0,256,896,0,0,4096,14336,1927,34695,131071,262143],[(0,false),(1,true),(2,false),(3,false),(4,true),(5,false),(6,true),(7,false),(8,false),(9,true),(10,false),(11,false),(12,false),(13,true),(14,false),(15,false),(16,true),(17,false),(18,false)])]⟩) tab mixed (by decide) ?_
  refine st_free ?_
  refine st_drawL tab mixed (f2:=⟨75,[8,9,11],[4,5],none,[(2,[0,1,0,7,15,0,32,0,128,480,992,2047,4095],[(0,false),(1,true),(2,false),(3,false),(4,true),(5,false),(6,true),(7,false),(8,true),(9,false),(10,true),(11,false),(12,false)]),(3,[0,0,2,7,0,0,32,127,0,0,512,2047,0,0,8192,32767,65535,0,262143],[(0,false),(1,false),(2,true),(5,false),(6,true),(9,false),(10,true),(13,false),(14,true),(17,false),(3,false),(4,false),(7,false),(8,false),(11,false),(12,false),(15,false),(16,false),(18,false)]),(4,[0,1,0,0,8,0,0,0,192,455,967,2047,4095],[(0,false),(1,true),(2,false),(3,false),(4,true),(5,false),(6,false),(7,false),(8,false),(9,false),(10,true),(11,false),(12,false)]),(5,[0,1,0,0,8,0,32,0,0,256,896,0,0,4096,14336,1927,34695,131071,262143],[(0,false),(1,true),(2,false),(3,false),(4,true),(5,false),(6,true),(7,false),(8,false),(9,true),(10,false),(11,false),(12,false),(13,true),(14,false),(15,false),(16,true),(17,false),(18,false)])]⟩) [4,8,12] rfl rfl (by first|(simp only[go_sem];rfl)|rfl) (by first|(simp only[go_sem];rfl)|rfl) (by first|(simp only[go_sem];rfl)|rfl) (by intro i o hi ho;have hi':i=4 ∨ i=8 ∨ i=12:=(by simpa using hi);rcases hi' with rfl|rfl|rfl;(· cases ho;exact ⟨33,1,rfl,rfl⟩);(· cases ho;exact ⟨37,1,rfl,rfl⟩);(· cases ho;exact ⟨41,1,rfl,rfl⟩)) (by decide) ?_
  repeat' (first|refine st_det rfl (by simp (disch:=omega) only[go_sem,wr_i64,if_yes,if_no,↓reduceIte,reduceAdd,reduceMul,reduceEqDiff,Nat.reduceBEq,reduceLeDiff,length_map,big,Nat.zero_add,List.nil_append];rfl) ?_|refine st_dop rfl ?_|refine st_loc rfl (by simp (disch:=omega) only[go_sem,wr_i64,if_yes,if_no,↓reduceIte,reduceAdd,reduceMul,reduceEqDiff,Nat.reduceBEq,reduceLeDiff,length_map,big,Nat.zero_add,List.nil_append];rfl) ?_|refine st_heap rfl (by simp (disch:=omega) only[go_sem,wr_i64,if_yes,if_no,↓reduceIte,reduceAdd,reduceMul,reduceEqDiff,Nat.reduceBEq,reduceLeDiff,length_map,big,Nat.zero_add,List.nil_append];rfl) ?_|refine st_store (by simp (disch:=omega) only[go_sem,wr_i64,if_yes,if_no,↓reduceIte,reduceAdd,reduceMul,reduceEqDiff,Nat.reduceBEq,reduceLeDiff,length_map,big,Nat.zero_add,List.nil_append];rfl) ?_|refine st_append (by simp (disch:=omega) only[go_sem,wr_i64,if_yes,if_no,↓reduceIte,reduceAdd,reduceMul,reduceEqDiff,Nat.reduceBEq,reduceLeDiff,length_map,big,Nat.zero_add,List.nil_append];rfl) ?_|refine st_dnil ?_|refine st_tN ?_)
  all_goals try (exfalso;omega)
  have s1:(x.plan.map Sf.row).set job [.int .i64 (w:Nat),.int .i64 (max (x.hands.getD w 0) (x.ready.getD (jOf S.js job).f.toNat 0))]=(withR S.js x job w).plan.map Sf.row:=by simp only[withR,List.map_set];rfl
  have s2:(x.dn.map bv).set job [.bool true]=(withR S.js x job w).dn.map bv:=by simp only[withR,List.map_set];rfl
  have s3:(x.hands.map iv).set w [.int .i64 (max (x.hands.getD w 0) (x.ready.getD (jOf S.js job).f.toNat 0)+(jOf S.js job).d)]=(withR S.js x job w).hands.map iv:=by simp only[withR,List.map_set];rfl
  have s4:(x.ready.map iv).set (jOf S.js job).f.toNat [.int .i64 (max (x.hands.getD w 0) (x.ready.getD (jOf S.js job).f.toNat 0)+(jOf S.js job).d)]=(withR S.js x job w).ready.map iv:=by simp only[withR,List.map_set];rfl
  refine asem_seq (fi:=⟨75,[8,9,11],[4,5,1000003],none,[(2,[0,1,0,7,15,0,32,0,128,480,992,2047,4095],[(0,false),(1,true),(2,false),(3,false),(4,true),(5,false),(6,true),(7,false),(8,true),(9,false),(10,true),(11,false),(12,false)]),(3,[0,0,2,7,0,0,32,127,0,0,512,2047,0,0,8192,32767,65535,0,262143],[(0,false),(1,false),(2,true),(5,false),(6,true),(9,false),(10,true),(13,false),(14,true),(17,false),(3,false),(4,false),(7,false),(8,false),(11,false),(12,false),(15,false),(16,false),(18,false)]),(4,[0,1,0,0,8,0,0,0,192,455,967,2047,4095],[(0,false),(1,true),(2,false),(3,false),(4,true),(5,false),(6,false),(7,false),(8,false),(9,false),(10,true),(11,false),(12,false)]),(5,[0,1,0,0,8,0,32,0,0,256,896,0,0,4096,14336,1927,34695,131071,262143],[(0,false),(1,true),(2,false),(3,false),(4,true),(5,false),(6,true),(7,false),(8,false),(9,true),(10,false),(11,false),(12,false),(13,true),(14,false),(15,false),(16,true),(17,false),(18,false)])]⟩) tab mixed (by decide) ?_
  repeat' (first|refine st_draw rfl (by first|(simp only[go_sem,length_map,Nat.zero_add,s1,s2];rfl)|rfl) (by first|(simp only[go_sem,length_map,Nat.zero_add,s1,s2];rfl)|rfl) ?_|refine st_det rfl (by simp (disch:=omega) only[go_sem,wr_i64,if_yes,if_no,↓reduceIte,reduceAdd,reduceMul,reduceEqDiff,Nat.reduceBEq,reduceLeDiff,length_map,Nat.zero_add,s1,s2];rfl) ?_|refine st_dop rfl ?_|refine st_store (by simp (disch:=omega) only[go_sem,wr_i64,if_yes,if_no,↓reduceIte,reduceAdd,reduceMul,reduceEqDiff,Nat.reduceBEq,reduceLeDiff,length_map,Nat.zero_add,s1,s2];rfl) ?_|refine st_dnil ?_|refine st_tN ?_)
  all_goals try (exfalso;omega)
  refine asem_seq (fi:=⟨75,[8,9,11],[4,5,1000003],none,[(2,[0,1,0,7,15,0,32,0,128,480,992,2047,4095],[(0,false),(1,true),(2,false),(3,false),(4,true),(5,false),(6,true),(7,false),(8,true),(9,false),(10,true),(11,false),(12,false)]),(3,[0,0,2,7,0,0,32,127,0,0,512,2047,0,0,8192,32767,65535,0,262143],[(0,false),(1,false),(2,true),(5,false),(6,true),(9,false),(10,true),(13,false),(14,true),(17,false),(3,false),(4,false),(7,false),(8,false),(11,false),(12,false),(15,false),(16,false),(18,false)]),(4,[0,1,0,0,8,0,0,0,192,455,967,2047,4095],[(0,false),(1,true),(2,false),(3,false),(4,true),(5,false),(6,false),(7,false),(8,false),(9,false),(10,true),(11,false),(12,false)]),(5,[0,1,0,0,8,0,32,0,0,256,896,0,0,4096,14336,1927,34695,131071,262143],[(0,false),(1,true),(2,false),(3,false),(4,true),(5,false),(6,true),(7,false),(8,false),(9,true),(10,false),(11,false),(12,false),(13,true),(14,false),(15,false),(16,true),(17,false),(18,false)])]⟩) tab mixed (by decide) ?_
  repeat' (first|refine st_draw rfl (by first|(simp only[go_sem,length_map,Nat.zero_add,s3,s4];rfl)|rfl) (by first|(simp only[go_sem,length_map,Nat.zero_add,s3,s4];rfl)|rfl) ?_|refine st_det rfl (by simp (disch:=omega) only[go_sem,wr_i64,if_yes,if_no,↓reduceIte,reduceAdd,reduceMul,reduceEqDiff,Nat.reduceBEq,reduceLeDiff,length_map,Nat.zero_add,s3,s4];rfl) ?_|refine st_dop rfl ?_|refine st_store (by simp (disch:=omega) only[go_sem,wr_i64,if_yes,if_no,↓reduceIte,reduceAdd,reduceMul,reduceEqDiff,Nat.reduceBEq,reduceLeDiff,length_map,Nat.zero_add,s3,s4];rfl) ?_|refine st_dnil ?_|refine st_tN ?_)
  all_goals try (exfalso;omega)
  have l1:(withR S.js x job w).plan.length=x.plan.length:=by simp [withR]
  have l2:(withR S.js x job w).dn.length=x.dn.length:=by simp [withR]
  have l3:(withR S.js x job w).hands.length=x.hands.length:=by simp [withR]
  have l4:(withR S.js x job w).ready.length=x.ready.length:=by simp [withR]
  clear s1 s2 s3 s4
  generalize withR S.js x job w=y at *
  refine ASem.cutX (h.clk+1+1+1,11) (fun b'=>b'=(h.clk+1+1+1,32)) (cs:=[.slc (h.clk+1+1+1,32) 2 0 x.plan.length,.slc (h.clk+1+1+1,36) 1 0 x.dn.length,.slc (h.clk+1+1+1,40) 1 0 x.hands.length,.slc (h.clk+1+1+1,44) 1 0 x.ready.length]) (cs':=[.lst 2 (y.plan.map Sf.row),.slc (h.clk+1+1+1,36) 1 0 x.dn.length,.slc (h.clk+1+1+1,40) 1 0 x.hands.length,.slc (h.clk+1+1+1,44) 1 0 x.ready.length]) (by first|rfl|(simp only[go_sem,↓reduceIte,reduceEqDiff];done)|(simp only[go_sem,↓reduceIte,reduceEqDiff];rfl)) (.inr ⟨(h.clk+1+1+1,32),⟨2,y.plan.map Sf.row⟩,(by first|rfl|(simp only[go_sem,↓reduceIte,reduceEqDiff];done)|(simp only[go_sem,↓reduceIte,reduceEqDiff];rfl)),(by have q:=frz_lst (b:=(h.clk+1+1+1,32)) (z:=2) (l:=y.plan.map Sf.row);rw [length_map,l1] at q;simp only[frzs,q,frz_ne (b':=(h.clk+1+1+1,36)) (b:=(h.clk+1+1+1,32)) (by intro e;injection e with _ e;exact absurd e (by decide)),frz_ne (b':=(h.clk+1+1+1,40)) (b:=(h.clk+1+1+1,32)) (by intro e;injection e with _ e;exact absurd e (by decide)),frz_ne (b':=(h.clk+1+1+1,44)) (b:=(h.clk+1+1+1,32)) (by intro e;injection e with _ e;exact absurd e (by decide))]),rfl⟩) fun H1 h1a h1b h1c=>?_
  have q1:H1.at_ (h.clk+1+1+1,36)=some ⟨1,y.dn.map bv⟩:=(h1a _ (by intro e;injection e with _ e;exact absurd e (by decide))).trans (by first|rfl|(simp only[go_sem,↓reduceIte,reduceEqDiff];done)|(simp only[go_sem,↓reduceIte,reduceEqDiff];rfl))
  have q2:H1.at_ (h.clk+1+1+1,40)=some ⟨1,y.hands.map iv⟩:=(h1a _ (by intro e;injection e with _ e;exact absurd e (by decide))).trans (by first|rfl|(simp only[go_sem,↓reduceIte,reduceEqDiff];done)|(simp only[go_sem,↓reduceIte,reduceEqDiff];rfl))
  have q3:H1.at_ (h.clk+1+1+1,44)=some ⟨1,y.ready.map iv⟩:=(h1a _ (by intro e;injection e with _ e;exact absurd e (by decide))).trans (by first|rfl|(simp only[go_sem,↓reduceIte,reduceEqDiff];done)|(simp only[go_sem,↓reduceIte,reduceEqDiff];rfl))
  refine ASem.cutX (h.clk+1+1+1,11) (fun b'=>b'=(h.clk+1+1+1,36)) (cs:=[.lst 2 (y.plan.map Sf.row),.slc (h.clk+1+1+1,36) 1 0 x.dn.length,.slc (h.clk+1+1+1,40) 1 0 x.hands.length,.slc (h.clk+1+1+1,44) 1 0 x.ready.length]) (cs':=[.lst 2 (y.plan.map Sf.row),.lst 1 (y.dn.map bv),.slc (h.clk+1+1+1,40) 1 0 x.hands.length,.slc (h.clk+1+1+1,44) 1 0 x.ready.length]) (by first|rfl|(simp only[go_sem,↓reduceIte,reduceEqDiff];done)|(simp only[go_sem,↓reduceIte,reduceEqDiff];rfl)) (.inr ⟨(h.clk+1+1+1,36),⟨1,y.dn.map bv⟩,q1,(by have q:=frz_lst (b:=(h.clk+1+1+1,36)) (z:=1) (l:=y.dn.map bv);rw [length_map,l2] at q;simp only[frzs,q,tSf y.plan (h.clk+1+1+1,36) ⟨1,y.dn.map bv⟩,frz_ne (b':=(h.clk+1+1+1,40)) (b:=(h.clk+1+1+1,36)) (by intro e;injection e with _ e;exact absurd e (by decide)),frz_ne (b':=(h.clk+1+1+1,44)) (b:=(h.clk+1+1+1,36)) (by intro e;injection e with _ e;exact absurd e (by decide))]),rfl⟩) fun H2 h2a h2b h2c=>?_
  have q2:H2.at_ (h.clk+1+1+1,40)=some ⟨1,y.hands.map iv⟩:=(h2a _ (by intro e;injection e with _ e;exact absurd e (by decide))).trans q2
  have q3:H2.at_ (h.clk+1+1+1,44)=some ⟨1,y.ready.map iv⟩:=(h2a _ (by intro e;injection e with _ e;exact absurd e (by decide))).trans q3
  refine ASem.cutX (h.clk+1+1+1,11) (fun b'=>b'=(h.clk+1+1+1,40)) (cs:=[.lst 2 (y.plan.map Sf.row),.lst 1 (y.dn.map bv),.slc (h.clk+1+1+1,40) 1 0 x.hands.length,.slc (h.clk+1+1+1,44) 1 0 x.ready.length]) (cs':=[.lst 2 (y.plan.map Sf.row),.lst 1 (y.dn.map bv),.lst 1 (y.hands.map iv),.slc (h.clk+1+1+1,44) 1 0 x.ready.length]) (by first|rfl|(simp only[go_sem,↓reduceIte,reduceEqDiff];done)|(simp only[go_sem,↓reduceIte,reduceEqDiff];rfl)) (.inr ⟨(h.clk+1+1+1,40),⟨1,y.hands.map iv⟩,q2,(by have q:=frz_lst (b:=(h.clk+1+1+1,40)) (z:=1) (l:=y.hands.map iv);rw [length_map,l3] at q;simp only[frzs,q,tSf y.plan (h.clk+1+1+1,40) ⟨1,y.hands.map iv⟩,tBv y.dn (h.clk+1+1+1,40) ⟨1,y.hands.map iv⟩,frz_ne (b':=(h.clk+1+1+1,44)) (b:=(h.clk+1+1+1,40)) (by intro e;injection e with _ e;exact absurd e (by decide))]),rfl⟩) fun H3 h3a h3b h3c=>?_
  have q3:H3.at_ (h.clk+1+1+1,44)=some ⟨1,y.ready.map iv⟩:=(h3a _ (by intro e;injection e with _ e;exact absurd e (by decide))).trans q3
  refine ASem.cutX (h.clk+1+1+1,11) (fun b'=>b'=(h.clk+1+1+1,44)) (cs:=[.lst 2 (y.plan.map Sf.row),.lst 1 (y.dn.map bv),.lst 1 (y.hands.map iv),.slc (h.clk+1+1+1,44) 1 0 x.ready.length]) (cs':=[.lst 2 (y.plan.map Sf.row),.lst 1 (y.dn.map bv),.lst 1 (y.hands.map iv),.lst 1 (y.ready.map iv)]) (by first|rfl|(simp only[go_sem,↓reduceIte,reduceEqDiff];done)|(simp only[go_sem,↓reduceIte,reduceEqDiff];rfl)) (.inr ⟨(h.clk+1+1+1,44),⟨1,y.ready.map iv⟩,q3,(by have q:=frz_lst (b:=(h.clk+1+1+1,44)) (z:=1) (l:=y.ready.map iv);rw [length_map,l4] at q;simp only[frzs,q,tSf y.plan (h.clk+1+1+1,44) ⟨1,y.ready.map iv⟩,tBv y.dn (h.clk+1+1+1,44) ⟨1,y.ready.map iv⟩,tIv y.hands (h.clk+1+1+1,44) ⟨1,y.ready.map iv⟩]),rfl⟩) fun H4 h4a h4b h4c=>?_
  refine st_run tab mixed (f2:=⟨75,[8,9,11],[4,5],none,[(2,[0,1,0,7,15,0,32,0,128,480,992,2047,4095],[(0,false),(1,true),(2,false),(3,false),(4,true),(5,false),(6,true),(7,false),(8,true),(9,false),(10,true),(11,false),(12,false)]),(3,[0,0,2,7,0,0,32,127,0,0,512,2047,0,0,8192,32767,65535,0,262143],[(0,false),(1,false),(2,true),(5,false),(6,true),(9,false),(10,true),(13,false),(14,true),(17,false),(3,false),(4,false),(7,false),(8,false),(11,false),(12,false),(15,false),(16,false),(18,false)]),(4,[0,1,0,0,8,0,0,0,192,455,967,2047,4095],[(0,false),(1,true),(2,false),(3,false),(4,true),(5,false),(6,false),(7,false),(8,false),(9,false),(10,true),(11,false),(12,false)]),(5,[0,1,0,0,8,0,32,0,0,256,896,0,0,4096,14336,1927,34695,131071,262143],[(0,false),(1,true),(2,false),(3,false),(4,true),(5,false),(6,true),(7,false),(8,false),(9,true),(10,false),(11,false),(12,false),(13,true),(14,false),(15,false),(16,true),(17,false),(18,false)])]⟩) rfl rfl (by decide) ?_
  repeat' (first|refine st_seq_reg rfl (by first|(simp only[go_sem];rfl)|rfl) (by first|(simp only[go_sem];rfl)|rfl) ?_|refine st_op ?_|refine st_det rfl (by simp (disch:=omega) only[go_sem,wr_i64,if_yes,if_no,↓reduceIte,reduceAdd,reduceMul,reduceEqDiff,Nat.reduceBEq,reduceLeDiff];rfl) ?_|refine st_store (by simp (disch:=omega) only[go_sem,wr_i64,if_yes,if_no,↓reduceIte,reduceAdd,reduceMul,reduceEqDiff,Nat.reduceBEq,reduceLeDiff];rfl) ?_|refine st_nil ?_|refine st_ret ?_)
  simp (disch:=omega) only[AEnd,Tryd.results103,aresK,fin,go_sem,↓reduceIte,reduceEqDiff,reduceAdd,reduceLeDiff,if_yes,if_no,implies_true,true_and,and_true,List.reverse_cons,List.reverse_nil]
  refine ⟨fun b' hb'=>?_,?_⟩
  · have z:∀ d:Nat,b' ≠ (h.clk+1+1+1,d):=fun d e=>by rw [e] at hb';exact absurd hb' (by show ¬ h.clk+1+1+1 < h.clk;omega)
    show H4.at_ b'=_
    rw [h4a b' (z _),h3a b' (z _),h2a b' (z _),h1a b' (z _)]
    simp only[put_ne _ _ (z _)]
    rfl
  · show H4.lp=h.lp
    rw [h4c,h3c,h2c,h1c];rfl
end Go.Proofs.YtaijkalhkgjakaaDoor
