/- Contracts of functions that the claim reaches: what each call gives, told in our own logic. Conditions: those of each theorem. -/
import Derived.Test.YtefogfgddofdmaaGreatDoorAvT
import Derived.Test.YtefogfgddofdmaaGreatDoorWSH
open Nat (reduceAdd reduceMul reduceEqDiff reduceLeDiff)
set_option linter.all false
set_option linter.unusedSimpArgs false
set_option linter.unusedVariables false
namespace Go.Proofs.YtefogfgddofdmaaGreatDoor
open Go.Av
attribute [local irreducible] thenA blockA awp awpOps awpD awp1
set_option maxHeartbeats 4000000
set_option maxRecDepth 20000
theorem mixed:Tryz.prog.follows .mixedOrders=true:=by decide
def iv (n:Int):List AV:=[.int .i64 n]
@[go_sem] theorem iv_eq (n:Int):iv n=[.int .i64 n]:=rfl
@[go_sem] theorem map_len {α β:Type} (f:α→β) (l:List α):(l.map f).length=l.length:=List.length_map f
@[go_sem] theorem ivs_getD {l:List Int} {i:Nat} (h:i < l.length):(l.map iv).getD i []=[.int .i64 (l.getD i 0)]:=by
  simp [List.getD_eq_getElem?_getD,h,iv]
@[go_sem] theorem toNat_cast (n:Nat):((n:Nat):Int).toNat=n:=rfl
def allIn (lo hi:Int) (l:List Int):Bool:=l.all fun a=>decide (lo≤a∧a≤hi)
theorem drop_getD {α:Type} {l:List α} {i:Nat} (d:α) (h:i < l.length):l.drop i=l.getD i d :: l.drop (i+1):=by
  rw [List.drop_eq_getElem_cons h,List.getD_eq_getElem?_getD,List.getElem?_eq_getElem h];rfl
theorem c47 (lo hi:Int) (es:List Int) (hl:(es.length:Int) < 1000000):Pure Tryz.prog 47 [.int .i64 lo,.int .i64 hi,.lst 1 (es.map iv)] (fun v=>v=.bool (allIn lo hi es)):=by
  intro h
  refine ACalls.forget (ACalls.of tab mixed Tryz.call47 Tryz.func47 rfl (fi:=⟨24,[],[],none,[]⟩) rfl rfl (Nat.le_of_ble_eq_true rfl) (by decide) ?_)
  unfold startA
  repeat' (first|refine st_seq_reg rfl (by first|(simp only[go_sem];rfl)|rfl) (by first|(simp only[go_sem];rfl)|rfl) ?_|refine st_reg rfl (by first|(simp only[go_sem];rfl)|rfl) (by first|(simp only[go_sem];rfl)|rfl) ?_|refine st_op ?_|refine st_det rfl (by simp (disch:=omega) only[go_sem,wr_i64,if_yes,if_no,↓reduceIte,reduceAdd,reduceMul,reduceEqDiff,Nat.reduceBEq,reduceLeDiff];rfl) ?_|refine st_gT rfl rfl rfl ?_|refine st_gF rfl rfl rfl ?_|(refine st_gS rfl rfl ?_ ?_ <;> intro hg <;> (try simp only[decide_eq_true_eq,decide_eq_false_iff_not,Bool.not_eq_true',Bool.not_eq_false'] at hg))|refine st_condT rfl ?_|refine st_condF rfl ?_|(refine st_condS rfl ?_ ?_ <;> intro hg <;> (try simp only[decide_eq_true_eq,decide_eq_false_iff_not,Bool.not_eq_true',Bool.not_eq_false'] at hg))|refine st_nil ?_|refine st_tN ?_|refine st_seq ?_|refine st_block ?_|refine st_skip ?_|refine st_exit ?_|refine st_ret ?_|refine st_tE ?_|refine st_tR ?_|refine st_bN ?_|refine st_bR ?_|refine st_bH ?_|refine st_bM rfl ?_)
  refine st_loopC (α:=Nat) tab mixed [] [] (by repeat (first|exact trivial|refine ⟨rfl,?_⟩)) [] [] (by repeat (first|exact trivial|refine ⟨rfl,?_⟩)) (fun i=>[(11,.int .i64 i)]) [(0,_),(1,_),(6,_),(9,_),(10,_)] (fun _=>[]) [] (fun i=>i≤es.length∧allIn lo hi (es.drop i)=allIn lo hi es) (fun i=>es.length - i) (by decide) 0 ⟨by omega,rfl⟩ (by (try simp only[go_sem]);repeat' (first|exact trivial|refine And.intro ?_ ?_|rfl|(simp (disch:=omega) only[go_sem,if_yes,if_no,↓reduceIte,reduceAdd,reduceMul,reduceEqDiff,Nat.reduceBEq,reduceLeDiff];rfl)|(simp (disch:=omega) only[go_sem,if_yes,if_no,↓reduceIte,reduceAdd,reduceMul,reduceEqDiff,Nat.reduceBEq,reduceLeDiff]))) (by (try simp only[go_sem]);repeat' (first|exact trivial|refine And.intro ?_ ?_|rfl|(simp (disch:=omega) only[go_sem,if_yes,if_no,↓reduceIte,reduceAdd,reduceMul,reduceEqDiff,Nat.reduceBEq,reduceLeDiff];rfl)|(simp (disch:=omega) only[go_sem,if_yes,if_no,↓reduceIte,reduceAdd,reduceMul,reduceEqDiff,Nat.reduceBEq,reduceLeDiff]))) (by first|(simp only[go_sem];rfl)|rfl) (by intro n;simp only[go_sem];rfl) ?_
  rintro i c ⟨hi',hall⟩ hc
  simp only[go_sem]
  repeat' (first|refine st_seq_reg rfl (by first|(simp only[go_sem];rfl)|rfl) (by first|(simp only[go_sem];rfl)|rfl) ?_|refine st_reg rfl (by first|(simp only[go_sem];rfl)|rfl) (by first|(simp only[go_sem];rfl)|rfl) ?_|refine st_op ?_|refine st_det rfl (by simp (disch:=omega) only[go_sem,wr_i64,if_yes,if_no,↓reduceIte,reduceAdd,reduceMul,reduceEqDiff,Nat.reduceBEq,reduceLeDiff];rfl) ?_|refine st_gT rfl rfl rfl ?_|refine st_gF rfl rfl rfl ?_|(refine st_gS rfl rfl ?_ ?_ <;> intro hg <;> (try simp only[decide_eq_true_eq,decide_eq_false_iff_not,Bool.not_eq_true',Bool.not_eq_false'] at hg))|refine st_condT rfl ?_|refine st_condF rfl ?_|(refine st_condS rfl ?_ ?_ <;> intro hg <;> (try simp only[decide_eq_true_eq,decide_eq_false_iff_not,Bool.not_eq_true',Bool.not_eq_false'] at hg))|refine st_nil ?_|refine st_tN ?_|refine st_seq ?_|refine st_block ?_|refine st_skip ?_|refine st_exit ?_|refine st_ret ?_|refine st_tE ?_|refine st_tR ?_|refine st_bN ?_|refine st_bR ?_|refine st_bH ?_|refine st_bM rfl ?_)
  · simp (disch:=omega) only[AEnd,Tryz.results47,aresK,fin,go_sem,↓reduceIte,reduceEqDiff,reduceAdd,reduceLeDiff,if_yes,if_no,implies_true,true_and,and_true,List.reverse_cons,List.reverse_nil]
    rw [← hall,drop_getD 0 (by omega)];simp [allIn,-List.getD_eq_getElem?_getD];omega
  · simp (disch:=omega) only[AEnd,Tryz.results47,aresK,fin,go_sem,↓reduceIte,reduceEqDiff,reduceAdd,reduceLeDiff,if_yes,if_no,implies_true,true_and,and_true,List.reverse_cons,List.reverse_nil]
    rw [← hall,drop_getD 0 (by omega)];simp [allIn,-List.getD_eq_getElem?_getD];omega
  · refine ⟨i+1,⟨by omega,by rw [← hall,drop_getD 0 (by omega:i < es.length)];simp [allIn,-List.getD_eq_getElem?_getD];omega⟩,by omega,(by repeat' (first|exact trivial|refine And.intro ?_ ?_|rfl|(simp (disch:=omega) only[go_sem,if_yes,if_no,↓reduceIte,reduceAdd,reduceMul,reduceEqDiff,Nat.reduceBEq,reduceLeDiff];rfl)|(simp (disch:=omega) only[go_sem,if_yes,if_no,↓reduceIte,reduceAdd,reduceMul,reduceEqDiff,Nat.reduceBEq,reduceLeDiff]))),(by repeat' (first|exact trivial|refine And.intro ?_ ?_|rfl|(simp (disch:=omega) only[go_sem,if_yes,if_no,↓reduceIte,reduceAdd,reduceMul,reduceEqDiff,Nat.reduceBEq,reduceLeDiff];rfl)|(simp (disch:=omega) only[go_sem,if_yes,if_no,↓reduceIte,reduceAdd,reduceMul,reduceEqDiff,Nat.reduceBEq,reduceLeDiff]))),rfl,(by first|exact HOld.of _ (by omega)|exact HOld.put _ _ _ (by omega))⟩
  · simp (disch:=omega) only[AEnd,Tryz.results47,aresK,fin,go_sem,↓reduceIte,reduceEqDiff,reduceAdd,reduceLeDiff,if_yes,if_no,implies_true,true_and,and_true,List.reverse_cons,List.reverse_nil]
    rw [← hall,List.drop_eq_nil_of_le (by omega)];rfl
theorem c47a (lo hi a:Int):Pure Tryz.prog 47 [.int .i64 lo,.int .i64 hi,.lst 1 [[.int .i64 a]]] (fun v=>v=.bool (decide (lo≤a∧a≤hi))):=by
  have h:=c47 lo hi [a] (by simp)
  have e:allIn lo hi [a]=decide (lo≤a∧a≤hi):=by simp [allIn]
  rw [e] at h;exact h
theorem c47b (lo hi a b:Int):Pure Tryz.prog 47 [.int .i64 lo,.int .i64 hi,.lst 1 [[.int .i64 a],[.int .i64 b]]] (fun v=>v=.bool (decide (lo≤a∧a≤hi∧lo≤b∧b≤hi))):=by
  have h:=c47 lo hi [a,b] (by simp)
  have e:allIn lo hi [a,b]=decide (lo≤a∧a≤hi∧lo≤b∧b≤hi):=by simp [allIn,Bool.decide_and,Bool.and_assoc]
  rw [e] at h;exact h
def hasB (s n:Int):Bool:=decide (bitop .and .i64 (shr .i64 s n) 1=1)
def wthB (s n:Int):Int:=bitop .or .i64 s (shl .i64 1 n)
theorem c46 (s n:Int) (hn:0≤n):Pure Tryz.prog 46 [.int .i64 s,.int .i64 n] (fun v=>v=.bool (hasB s n)):=by
  intro h
  refine ACalls.forget (ACalls.of tab mixed Tryz.call46 Tryz.func46 rfl (fi:=⟨10,[],[],none,[]⟩) rfl rfl (Nat.le_of_ble_eq_true rfl) (by decide) ?_)
  unfold startA
  repeat' (first|refine st_seq_reg rfl (by first|(simp only[go_sem];rfl)|rfl) (by first|(simp only[go_sem];rfl)|rfl) ?_|refine st_reg rfl (by first|(simp only[go_sem];rfl)|rfl) (by first|(simp only[go_sem];rfl)|rfl) ?_|refine st_op ?_|refine st_det rfl (by simp (disch:=omega) only[go_sem,wr_i64,if_yes,if_no,↓reduceIte,reduceAdd,reduceMul,reduceEqDiff,Nat.reduceBEq,reduceLeDiff];rfl) ?_|refine st_nil ?_|refine st_tN ?_|refine st_seq ?_|refine st_skip ?_|refine st_ret ?_|refine st_tE ?_|refine st_tR ?_)
  simp (disch:=omega) only[AEnd,Tryz.results46,aresK,fin,go_sem,↓reduceIte,reduceEqDiff,reduceAdd,reduceLeDiff,if_yes,if_no,implies_true,true_and,and_true,List.reverse_cons,List.reverse_nil]
  trace_state
  rfl
theorem c77 (s n:Int) (hn:0≤n):Pure Tryz.prog 77 [.int .i64 s,.int .i64 n] (fun v=>v=.int .i64 (wthB s n)):=by
  intro h
  refine ACalls.forget (ACalls.of tab mixed Tryz.call77 Tryz.func77 rfl (fi:=⟨9,[],[],none,[]⟩) rfl rfl (Nat.le_of_ble_eq_true rfl) (by decide) ?_)
  unfold startA
  repeat' (first|refine st_seq_reg rfl (by first|(simp only[go_sem];rfl)|rfl) (by first|(simp only[go_sem];rfl)|rfl) ?_|refine st_reg rfl (by first|(simp only[go_sem];rfl)|rfl) (by first|(simp only[go_sem];rfl)|rfl) ?_|refine st_op ?_|refine st_det rfl (by simp (disch:=omega) only[go_sem,wr_i64,if_yes,if_no,↓reduceIte,reduceAdd,reduceMul,reduceEqDiff,Nat.reduceBEq,reduceLeDiff];rfl) ?_|refine st_nil ?_|refine st_tN ?_|refine st_seq ?_|refine st_skip ?_|refine st_ret ?_|refine st_tE ?_|refine st_tR ?_)
  simp (disch:=omega) only[AEnd,Tryz.results77,aresK,fin,go_sem,↓reduceIte,reduceEqDiff,reduceAdd,reduceLeDiff,if_yes,if_no,implies_true,true_and,and_true,List.reverse_cons,List.reverse_nil]
  trace_state
  rfl
end Go.Proofs.YtefogfgddofdmaaGreatDoor

namespace Go.Proofs.YtefogfgddofdmaaGreatDoor
open Go.Av Go.Txt Go.Lib
set_option maxRecDepth 20000
def gT:Nat→Option (List AV):=fun g=>if g=3 then some powAV else if g=0 then some [.ani] else if g=1 then some [.ifc] else if g=2 then some [.ifc] else none
theorem c54 (n:Int) (h0:-9223372036854775808≤n) (h1:n≤9223372036854775807):PureG gT Tryz.prog 54 [.int .i64 n] (fun v=>v=.str (itoa n)) :=
  cItoa (ρ:=laysM171_ren) (g:=3) laysM171 Tryz.call54 rfl (by kernel_rfl) n h0 h1
theorem c59 (s:List UInt8) (hs:s.length≤281474976710656):PureG gT Tryz.prog 59 [.str s] (fun v=>v=atoiV s) :=
  cAtoi (ρ:=laysC172_ren) laysC172 Tryz.call59 rfl rfl s hs
theorem c36 (s:List UInt8) (b:UInt8) (hs:s.length < 4294967281):PureG gT Tryz.prog 36 [.str s,.str [b]] (fun v=>v=.lst 1 (strs (splitL b s))) :=
  cSplit (ρ:=lays146_ren) lays146 Tryz.call36 (by kernel_rfl) rfl s b hs
abbrev BdZ:=Bd 76 5
theorem c53 {h0 h:AH} {l:Nat} {bs s:List UInt8} (hB:BdZ h0 h l bs) (hl:bs.length+s.length≤140737488355328) :
    ACalls Tryz.prog 53 [.gptr l 0,.str s] h (fun r h'=>r=.tup [.int .i64 s.length,.nilif]∧BdZ h0 h' l (bs ++ s)∧h'.at_=h.at_∧h'.clk=h.clk∧h'.gl=h.gl):=cWriteString wStr Tryz.call53 hB hl
theorem c55 {h0 h:AH} {l:Nat} {bs:List UInt8} (b:UInt8) (hB:BdZ h0 h l bs) (hl:bs.length+1≤140737488355328) :
    ACalls Tryz.prog 55 [.gptr l 0,.int .u8 b.toNat] h (fun r h'=>r=.nilif∧BdZ h0 h' l (bs ++ [b])∧h'.at_=h.at_∧h'.clk=h.clk∧h'.gl=h.gl):=cWriteByte wByte Tryz.call55 b hB hl
theorem c32 {h0 h:AH} {l:Nat} {bs:List UInt8} (hB:BdZ h0 h l bs) (hl:bs ≠ []) :
    ACalls Tryz.prog 32 [.gptr l 0] h (fun r h'=>r=.str bs∧(∀ i r,h0.lp i=some r→h'.lp i=some r)∧h'.at_=h.at_∧h'.clk=h.clk∧h'.gl=h.gl):=cString (ρ:=lays169_ren) lays169 Builder_Extra_169 Tryz.call32 hB hl
end Go.Proofs.YtefogfgddofdmaaGreatDoor

namespace Go.Proofs.YtefogfgddofdmaaGreatDoor
open Go.Av Go.Txt Go.Lib
attribute [local irreducible] thenA blockA awp awpOps awpD awp1
set_option maxHeartbeats 8000000
set_option maxRecDepth 20000
def numsT (l:List Int):List UInt8:=l.flatMap fun n=>32 :: itoa n
def rowT (w:List UInt8) (l:List Int):List UInt8:=w ++ numsT l ++ [10]
def NumOk (l:List Int):Prop:=l.length≤1000000∧∀ x ∈ l,-9223372036854775808≤x∧x≤9223372036854775807
theorem numsT_len {l:List Int} (h:∀ x ∈ l,-9223372036854775808≤x∧x≤9223372036854775807):(numsT l).length≤22 * l.length:=by
  induction l with
  | nil=>exact Nat.le_refl _
  | cons x l ih =>
    have h1:=h x (by simp)
    have h2:=itoa_length_le x h1.1 h1.2
    have h3:=ih (fun y hy=>h y (by simp [hy]))
    unfold numsT at h3 ⊢
    rw [List.flatMap_cons,List.length_append,List.length_cons,List.length_cons]
    omega
theorem numsT_take {l:List Int} {i:Nat} (h:i < l.length):numsT (l.take (i+1))=numsT (l.take i) ++ (32 :: itoa (l.getD i 0)):=by
  unfold numsT
  rw [List.take_succ,List.flatMap_append,List.getElem?_eq_getElem h,List.getD_eq_getElem?_getD,List.getElem?_eq_getElem h]
  simp
theorem iv_getD {l:List Int} {i:Nat} (h:i < l.length):(l.map iv).getD i []=[.int .i64 (l.getD i 0)]:=by
  rw [List.getD_eq_getElem?_getD,List.getElem?_map,List.getElem?_eq_getElem h,List.getD_eq_getElem?_getD,List.getElem?_eq_getElem h];rfl
theorem int_mem {l:List Int} {i:Nat} (h:i < l.length):l.getD i 0 ∈ l:=by
  rw [List.getD_eq_getElem?_getD,List.getElem?_eq_getElem h];exact List.getElem_mem h
end Go.Proofs.YtefogfgddofdmaaGreatDoor

namespace Go.Av
theorem VLes.mid {pre post:List AV} {v v':AV} (h:VLe v v'):VLes (pre ++ v :: post) (pre ++ v' :: post):=by
  induction pre with
  | nil=>simp only[List.nil_append,VLes];exact ⟨_,_,rfl,h,VLes.refl _⟩
  | cons x pre ih=>simp only[List.cons_append,VLes];exact ⟨_,_,rfl,VLe.refl _,ih⟩
theorem frzs_app (b:Bid) (k:Blk):∀ (l r:List AV),frzs b k (l ++ r)=frzs b k l ++ frzs b k r
  | [],r=>by simp only[List.nil_append,frzs]
  | x :: l,r=>by simp only[List.cons_append,frzs,frzs_app b k l r]
theorem SlA.ansT {h g:AH} {v:AV} {z:Nat} {l:List (List AV)} {R:AV→Prop} (pre post:List AV) (hp:∀ b k,frzs b k pre=pre) (hq:∀ b k,frzs b k post=post) (hS:SlA h.clk g v z l) (hR:R (.tup (pre ++ .lst z l :: post))) :
    (∃ v',VLe (.tup (pre ++ v :: post)) v'∧R v') ∨ ∃ b2 k',h.clk≤b2.1∧g.at_ b2=some k'∧R (frz b2 k' (.tup (pre ++ v :: post))):=by
  rcases hS with ⟨rfl,rfl⟩|⟨b1,rfl,h2,h3,h4⟩
  · exact .inl ⟨_,VLe.tup (VLes.mid (VLe.nils z)),hR⟩
  · refine .inr ⟨b1,_,h3,h2,?_⟩
    have e:=frz_lst (b:=b1) (z:=z) (l:=l)
    simp only[frz,frzs_app,frzs,hp,hq] at e ⊢
    rw [e];exact hR
end Go.Av
namespace Go.Av
variable {P:Program}
theorem ASem.cutWg {r:Option Nat} {n:Nat} {code:Code} {Q:Exit→AS→Prop} {T:Nat→AV} {B:Bid→Option (List AV)} {M:List Nat} {H:AH} (id:Bid) (pre post:List AV) (v:AV) (z:Nat) (l:List (List AV)) {h0:Nat} (hB:B id=some (pre ++ v :: post)) (hS:SlA h0 H v z l)
    (hst:∀ b m,v=.slc b z 0 m→frzs b ⟨z,l⟩ pre=pre∧frzs b ⟨z,l⟩ post=post)
    (h:∀ H',(∀ b',(∀ m,v ≠ .slc b' z 0 m)→H'.at_ b'=H.at_ b')→H'.clk=H.clk→H'.lp=H.lp→H'.gl=H.gl→ASem P r n code Q ⟨T,upd B id (some (pre ++ .lst z l :: post)),M,H'⟩):ASem P r n code Q ⟨T,B,M,H⟩:=by
  refine ASem.cutXg id (fun b=>∃ m,v=.slc b z 0 m) (cs':=pre ++ .lst z l :: post) hB ?_ fun H' h1 h2 h3 h4=>h H' (fun b' hb'=>h1 b' fun ⟨m,e⟩=>hb' m e) h2 h3 h4
  rcases hS with ⟨rfl,rfl⟩|⟨b1,rfl,h2,h3,h4⟩
  · exact .inl ⟨VLes.pre (VLe.nils z),fun hall=>by simpa [AV.cell] using hall⟩
  · obtain ⟨e1,e2⟩:=hst b1 _ rfl
    refine .inr ⟨b1,_,h2,?_,_,rfl⟩
    rw [frzs_app,e1]
    simp only[frzs,e2]
    rw [frz_lst]
def Dis (z z':Nat) (v v':AV):Prop:=∀ b m m',v=.slc b z 0 m→v'=.slc b z' 0 m'→False
theorem Dis.frz {z z':Nat} {v v':AV} {h0:Nat} {g:AH} {l':List (List AV)} (hd:Dis z z' v v') (hS:SlA h0 g v' z' l'):∀ b m k,v=.slc b z 0 m→frz b k v'=v':=by
  intro b m k e
  rcases hS with ⟨rfl,_⟩|⟨b2,rfl,_⟩
  · rfl
  · have hne:¬ b2=b:=fun q=>hd b m _ e (by rw [q])
    simp only[Av.frz,if_neg (fun q:b2=b∧_=>hne q.1)]
end Go.Av
namespace Go.Txt
open Go.Lib
def numsP (k:Nat):List (List UInt8)→Option (List Int)
  | []=>some []
  | x :: l=>match numP k x,numsP k l with
    | some n,some r=>some ((n:Int) :: r)
    | _,_=>none
theorem numsP_snoc {k:Nat} {x:List UInt8}:∀ {l:List (List UInt8)},numsP k (l ++ [x])=match numsP k l,numP k x with
    | some r,some n=>some (r ++ [(n:Int)])
    | _,_=>none
  | []=>by
    simp only[List.nil_append,numsP]
    cases numP k x <;> rfl
  | y :: l=>by
    simp only[List.cons_append,numsP,numsP_snoc (l:=l)]
    cases numP k y <;> cases numsP k l <;> cases numP k x <;> rfl
theorem numsP_bad {k:Nat}:∀ {l r:List (List UInt8)},numsP k l=none→numsP k (l ++ r)=none
  | [],r,h=>by simp [numsP] at h
  | y :: l,r,h=>by
    simp only[List.cons_append,numsP] at h ⊢
    cases hy:numP k y with
    | none=>rfl
    | some n =>
      rw [hy] at h
      cases hl:numsP k l with
      | none=>rw [numsP_bad hl]
      | some q=>rw [hl] at h;cases h
def rowP (k:Nat) (s:List UInt8):Option (List UInt8 × List Int):=match splitL 32 s with
  | []=>none
  | w :: ws=>(numsP k ws).map fun l=>(w,l)
theorem splitL_len (c:UInt8):∀ s,(splitL c s).length≤s.length+1
  | []=>by simp [splitL]
  | b :: s=>by
    obtain ⟨q,qs,h1,h2⟩:=splitL_cons c b s
    have:=splitL_len c s
    rw [h1] at this
    rw [h2]
    split <;> simp at this ⊢ <;> omega
theorem splitL_sub {c:UInt8}:∀ {s r:List UInt8},r ∈ splitL c s→r.length≤s.length
  | [],r,h=>by simp [splitL] at h;subst h;simp
  | b :: s,r,h=>by
    obtain ⟨q,qs,h1,h2⟩:=splitL_cons c b s
    have ih:=fun {x} hx=>splitL_sub (c:=c) (s:=s) (r:=x) (by rw [h1];exact hx)
    rw [h2] at h
    split at h
    · simp at h
      rcases h with rfl|h
      · simp
      · have:=ih (x:=r) (by simpa using h);simp;omega
    · simp at h
      rcases h with rfl|h
      · have:=ih (x:=q) (by simp);simp;omega
      · have:=ih (x:=r) (by simp [h]);simp;omega
theorem atoi_bd {l:List UInt8} {v:Int} (h:atoiAll l=.ok v):-9223372036854775808≤v∧v≤9223372036854775807:=by
  unfold atoiAll at h
  split at h
  · cases h
  · dsimp only at h
    split at h
    · cases h
    · cases h
    · split at h
      · cases h
      · split at h
        · cases h
        · rename_i h1 h2
          injection h with h
          split at h <;> omega
end Go.Txt

namespace Go.Proofs.YtefogfgddofdmaaGreatDoor
open Go.Av Go.Txt Go.Lib
theorem itoa_nat (n:Nat):itoa (n:Int)=decDigits n:=by
  unfold itoa
  rw [if_neg (by omega)]
  simp
theorem itoa_nn {x:Int} (h:0≤x):itoa x=decDigits x.toNat:=by
  have:=itoa_nat x.toNat
  rwa [Int.toNat_of_nonneg h] at this
theorem join_nums (w:List UInt8):∀ l:List Int,joinL 32 (w :: l.map itoa)=w ++ numsT l
  | []=>by simp [joinL,numsT]
  | x :: l=>by
    rw [List.map_cons,joinL_cons 32 w (by simp),join_nums (itoa x) l]
    simp [numsT]
theorem numsP_inv {k:Nat}:∀ {ws:List (List UInt8)} {l:List Int},numsP k ws=some l→ws=l.map itoa
  | [],l,h=>by simp [numsP] at h;subst h;rfl
  | x :: ws,l,h=>by
    simp only[numsP] at h
    split at h
    · rename_i n q h1 h2
      cases h
      rw [List.map_cons,itoa_nat,← (numP_some h1).1,← numsP_inv h2]
    · cases h
theorem row_of {k:Nat} {row w:List UInt8} {l:List Int} (h:rowP k row=some (w,l)):row=w ++ numsT l:=by
  unfold rowP at h
  split at h
  · cases h
  · rename_i w' ws hw
    cases hn:numsP k ws with
    | none=>rw [hn] at h;cases h
    | some r =>
      rw [hn] at h
      injection h with h
      injection h with h1 h2
      subst h1;subst h2
      rw [← join_nums,← numsP_inv hn,← hw,join_split]
theorem join_rows:∀ rs:List (List UInt8),joinL 10 (rs ++ [[]])=rs.flatMap (· ++ [10])
  | []=>rfl
  | r :: rs=>by
    rw [List.cons_append,joinL_cons 10 r (by simp),join_rows rs]
    simp
theorem dec_len:∀ (k u:Nat),u < 10 ^ (k+1)→(decDigits u).length≤k+1
  | 0,u,h=>by rw [dS (by simpa using h)];simp
  | k+1,u,h=>by
    by_cases h1:u < 10
    · rw [dS h1];simp
    · rw [dB h1,List.length_append,List.length_singleton]
      have:=dec_len k (u / 10) (by rw [Nat.pow_succ] at h;omega)
      omega
def nth (l:List Int) (i:Nat):Int:=l.getD i 0
theorem numsP_len {k:Nat}:∀ {l:List (List UInt8)} {r:List Int},numsP k l=some r→r.length=l.length
  | [],r,h=>by simp [numsP] at h;subst h;rfl
  | y :: l,r,h=>by
    simp only[numsP] at h
    split at h
    · rename_i n q h1 h2
      cases h
      rw [List.length_cons,List.length_cons,numsP_len h2]
    · cases h
end Go.Proofs.YtefogfgddofdmaaGreatDoor

namespace Go.Proofs.YtefogfgddofdmaaGreatDoor
open Go.Av
attribute [local irreducible] thenA blockA awp awpOps awpD awp1
set_option maxHeartbeats 8000000
set_option maxRecDepth 20000
structure Fd where
  day:Int
  till:Int
  amt:Int
  uses:List Int
structure Bl where
  day:Int
  use:Int
  amt:Int
structure Lg where
  fs:List Fd
  bs:List Bl
def Fd.row (x:Fd):List AV:=[.int .i64 x.day,.int .i64 x.till,.int .i64 x.amt,.lst 1 (x.uses.map iv)]
@[go_sem] theorem Fd.row_eq (x:Fd):x.row=[.int .i64 x.day,.int .i64 x.till,.int .i64 x.amt,.lst 1 (x.uses.map iv)]:=rfl
def Bl.row (x:Bl):List AV:=[.int .i64 x.day,.int .i64 x.use,.int .i64 x.amt]
@[go_sem] theorem Bl.row_eq (x:Bl):x.row=[.int .i64 x.day,.int .i64 x.use,.int .i64 x.amt]:=rfl
def Lg.av (l:Lg):AV:=.agg [.lst 4 (l.fs.map Fd.row),.lst 3 (l.bs.map Bl.row)]
@[go_sem] theorem Lg.av_eq (l:Lg):l.av=.agg [.lst 4 (l.fs.map Fd.row),.lst 3 (l.bs.map Bl.row)]:=rfl
def fd (l:List Fd) (i:Nat):Fd:=l.getD i ⟨0,0,0,[]⟩
def bl (l:List Bl) (i:Nat):Bl:=l.getD i ⟨0,0,0⟩
@[go_sem] theorem frow_getD {l:List Fd} {i:Nat} (h:i < l.length):(l.map Fd.row).getD i []=(fd l i).row:=by
  simp [List.getD_eq_getElem?_getD,h,fd]
@[go_sem] theorem brow_getD {l:List Bl} {i:Nat} (h:i < l.length):(l.map Bl.row).getD i []=(bl l i).row:=by
  simp [List.getD_eq_getElem?_getD,h,bl]
theorem fd_mem {l:List Fd} {i:Nat} (h:i < l.length):fd l i ∈ l:=by
  unfold fd
  rw [List.getD_eq_getElem?_getD,List.getElem?_eq_getElem h]
  exact List.getElem_mem h
theorem bl_mem {l:List Bl} {i:Nat} (h:i < l.length):bl l i ∈ l:=by
  unfold bl
  rw [List.getD_eq_getElem?_getD,List.getElem?_eq_getElem h]
  exact List.getElem_mem h
structure FdOk (x:Fd):Prop where
  day:0≤x.day∧x.day≤3650∧0≤x.till∧x.till≤3650
  ord:x.day≤x.till
  amt:0≤x.amt∧x.amt≤1000000000
  many:x.uses.length≤8
  uses:∀ u ∈ x.uses,0≤u∧u≤7
structure BlOk (x:Bl):Prop where
  day:0≤x.day∧x.day≤3650
  use:0≤x.use∧x.use≤7
  amt:0≤x.amt∧x.amt≤1000000000
structure LgOk (l:Lg):Prop where
  fn:l.fs.length≤8
  bn:l.bs.length≤8
  f:∀ x ∈ l.fs,FdOk x
  b:∀ x ∈ l.bs,BlOk x
def setN (l:List Int):Nat→Int
  | 0=>0
  | i+1=>wthB (setN l i) (l.getD i 0)
def setB (l:List Int):Int:=setN l l.length
theorem c62 (l:List Int) (h1:l.length≤1000) (h2:∀ u ∈ l,0≤u):Pure Tryz.prog 62 [.lst 1 (l.map iv)] (fun v=>v=.int .i64 (setB l)):=by
  have hg:∀ i,i < l.length→0≤l.getD i 0:=fun i hi=>by
    rw [List.getD_eq_getElem?_getD,List.getElem?_eq_getElem hi];exact h2 _ (List.getElem_mem hi)
  intro h
  refine ACalls.forget (ACalls.of tab mixed Tryz.call62 Tryz.func62 rfl (fi:=⟨17,[],[],none,[]⟩) rfl rfl (Nat.le_of_ble_eq_true rfl) (by decide) ?_)
  unfold startA
  repeat' (first|refine st_seq_reg rfl (by first|(simp only[go_sem];rfl)|rfl) (by first|(simp only[go_sem];rfl)|rfl) ?_|refine st_reg rfl (by first|(simp only[go_sem];rfl)|rfl) (by first|(simp only[go_sem];rfl)|rfl) ?_|refine st_op ?_|refine st_det rfl (by simp (disch:=omega) only[go_sem,wr_i64,if_yes,if_no,↓reduceIte,reduceAdd,reduceMul,reduceEqDiff,Nat.reduceBEq,reduceLeDiff];rfl) ?_|refine st_condT rfl ?_|refine st_condF rfl ?_|(refine st_condS rfl ?_ ?_ <;> intro hg <;> (try simp only[decide_eq_true_eq,decide_eq_false_iff_not,Bool.not_eq_true',Bool.not_eq_false'] at hg))|refine st_nil ?_|refine st_tN ?_|refine st_seq ?_|refine st_block ?_|refine st_skip ?_|refine st_exit ?_|refine st_ret ?_|refine st_tE ?_|refine st_tR ?_|refine st_bN ?_|refine st_bR ?_|refine st_bH ?_|refine st_bM rfl ?_)
  refine st_loopC (α:=Nat) tab mixed [] [] (by repeat (first|exact trivial|refine ⟨rfl,?_⟩)) [] [] (by repeat (first|exact trivial|refine ⟨rfl,?_⟩)) (fun i=>[(8,.int .i64 i),(3,.int .i64 (setN l i))]) [(0,_),(6,_),(7,_)] (fun _=>[]) [] (fun i=>i≤l.length) (fun i=>l.length - i) (by decide) 0 (Nat.zero_le _) (by (try simp only[go_sem]);repeat' (first|exact trivial|refine And.intro ?_ ?_|rfl|(simp (disch:=omega) only[go_sem,if_yes,if_no,↓reduceIte,reduceAdd,reduceMul,reduceEqDiff,Nat.reduceBEq,reduceLeDiff];rfl)|(simp (disch:=omega) only[go_sem,if_yes,if_no,↓reduceIte,reduceAdd,reduceMul,reduceEqDiff,Nat.reduceBEq,reduceLeDiff]))) (by (try simp only[go_sem]);repeat' (first|exact trivial|refine And.intro ?_ ?_|rfl|(simp (disch:=omega) only[go_sem,if_yes,if_no,↓reduceIte,reduceAdd,reduceMul,reduceEqDiff,Nat.reduceBEq,reduceLeDiff];rfl)|(simp (disch:=omega) only[go_sem,if_yes,if_no,↓reduceIte,reduceAdd,reduceMul,reduceEqDiff,Nat.reduceBEq,reduceLeDiff]))) (by first|(simp only[go_sem];rfl)|rfl) (by intro n;simp only[go_sem];rfl) ?_
  intro i c i1 hc
  simp only[go_sem]
  have hgi:=hg i
  repeat' (first|refine st_seq_reg rfl (by first|(simp only[go_sem];rfl)|rfl) (by first|(simp only[go_sem];rfl)|rfl) ?_|refine st_reg rfl (by first|(simp only[go_sem];rfl)|rfl) (by first|(simp only[go_sem];rfl)|rfl) ?_|refine st_op ?_|refine st_det rfl (by simp (disch:=omega) only[go_sem,wr_i64,if_yes,if_no,↓reduceIte,reduceAdd,reduceMul,reduceEqDiff,Nat.reduceBEq,reduceLeDiff];rfl) ?_|(refine st_pureE (by first|(simp (disch:=omega) only[go_sem];rfl)|rfl) rfl (c77 (setN l i) (l.getD i 0) (hgi (by omega))) (by first|(simp only[go_sem];rfl)|rfl) (by intro n;first|(simp (disch:=omega) only[go_sem];rfl)|rfl) ?_;intro n hn)|refine st_condT rfl ?_|refine st_condF rfl ?_|(refine st_condS rfl ?_ ?_ <;> intro hg <;> (try simp only[decide_eq_true_eq,decide_eq_false_iff_not,Bool.not_eq_true',Bool.not_eq_false'] at hg))|refine st_nil ?_|refine st_tN ?_|refine st_seq ?_|refine st_block ?_|refine st_skip ?_|refine st_exit ?_|refine st_ret ?_|refine st_tE ?_|refine st_tR ?_|refine st_bN ?_|refine st_bR ?_|refine st_bH ?_|refine st_bM rfl ?_)
  · refine ⟨i+1,(by show i+1≤l.length;omega),by show l.length - (i+1) < l.length - i;omega,(by repeat' (first|exact trivial|refine And.intro ?_ ?_|rfl|(simp (disch:=omega) only[go_sem,if_yes,if_no,↓reduceIte,reduceAdd,reduceMul,reduceEqDiff,Nat.reduceBEq,reduceLeDiff];rfl)|(simp (disch:=omega) only[go_sem,if_yes,if_no,↓reduceIte,reduceAdd,reduceMul,reduceEqDiff,Nat.reduceBEq,reduceLeDiff]))),(by repeat' (first|exact trivial|refine And.intro ?_ ?_|rfl|(simp (disch:=omega) only[go_sem,if_yes,if_no,↓reduceIte,reduceAdd,reduceMul,reduceEqDiff,Nat.reduceBEq,reduceLeDiff];rfl)|(simp (disch:=omega) only[go_sem,if_yes,if_no,↓reduceIte,reduceAdd,reduceMul,reduceEqDiff,Nat.reduceBEq,reduceLeDiff]))),rfl,(by first|exact HOld.of _ (by omega)|exact HOld.put _ _ _ (by omega))⟩
  · simp (disch:=omega) only[AEnd,Tryz.results62,aresK,fin,go_sem,↓reduceIte,reduceEqDiff,reduceAdd,reduceLeDiff,if_yes,if_no,implies_true,true_and,and_true,List.reverse_cons,List.reverse_nil]
    obtain rfl:i=l.length:=by omega
    rfl
def payB (f:Fd) (b:Bl):Bool:=decide (f.day≤b.day∧b.day≤f.till) && hasB (setB f.uses) b.use
theorem c42 (f:Fd) (b:Bl) (h1:f.uses.length≤1000) (h2:∀ u ∈ f.uses,0≤u) (h3:0≤b.use):Pure Tryz.prog 42 [.agg f.row,.agg b.row] (fun v=>v=.bool (payB f b)):=by
  intro h
  refine ACalls.forget (ACalls.of tab mixed Tryz.call42 Tryz.func42 rfl (fi:=⟨24,[],[2,3,16],none,[]⟩) rfl rfl (Nat.le_of_ble_eq_true rfl) (by decide) ?_)
  unfold startA
  simp only[go_sem]
  repeat' (first|refine st_seq_reg rfl (by first|(simp only[go_sem];rfl)|rfl) (by first|(simp only[go_sem];rfl)|rfl) ?_|refine st_reg rfl (by first|(simp only[go_sem];rfl)|rfl) (by first|(simp only[go_sem];rfl)|rfl) ?_|refine st_op ?_|refine st_det rfl (by simp (disch:=omega) only[go_sem,wr_i64,if_yes,if_no,↓reduceIte,reduceAdd,reduceMul,reduceEqDiff,Nat.reduceBEq,reduceLeDiff];rfl) ?_|refine st_loc rfl (by simp (disch:=omega) only[go_sem,wr_i64,if_yes,if_no,↓reduceIte,reduceAdd,reduceMul,reduceEqDiff,Nat.reduceBEq,reduceLeDiff];rfl) ?_|refine st_heap rfl (by simp (disch:=omega) only[go_sem,wr_i64,if_yes,if_no,↓reduceIte,reduceAdd,reduceMul,reduceEqDiff,Nat.reduceBEq,reduceLeDiff];rfl) ?_|(refine st_pureE (by first|(simp (disch:=omega) only[go_sem];rfl)|rfl) rfl (c62 f.uses h1 h2) (by first|(simp only[go_sem];rfl)|rfl) (by intro n;first|(simp (disch:=omega) only[go_sem];rfl)|rfl) ?_;intro n hn)|(refine st_pureE (by first|(simp (disch:=omega) only[go_sem];rfl)|rfl) rfl (c47a _ _ _) (by first|(simp only[go_sem];rfl)|rfl) (by intro n;first|(simp (disch:=omega) only[go_sem];rfl)|rfl) ?_;intro n hn)|(refine st_pureV (by first|(simp only[go_sem];rfl)|rfl) (by first|(simp (disch:=omega) only[go_sem];rfl)|rfl) rfl (c46 (setB f.uses) b.use h3) (by first|(simp only[go_sem];rfl)|rfl) (by intro n;first|(simp (disch:=omega) only[go_sem];rfl)|rfl) ?_;intro v n hv hn;subst hv)|refine st_gT rfl rfl rfl ?_|refine st_gF rfl rfl rfl ?_|(refine st_gS rfl rfl ?_ ?_ <;> intro hg <;> (try simp only[decide_eq_true_eq,decide_eq_false_iff_not,Bool.not_eq_true',Bool.not_eq_false'] at hg))|refine st_nil ?_|refine st_tN ?_|refine st_seq ?_|refine st_skip ?_|refine st_ret ?_|refine st_tE ?_|refine st_tR ?_)
  all_goals
    simp (disch:=omega) only[AEnd,Tryz.results42,aresK,fin,go_sem,↓reduceIte,reduceEqDiff,reduceAdd,reduceLeDiff,if_yes,if_no,implies_true,true_and,and_true,List.reverse_cons,List.reverse_nil]
    simp [payB, *]
end Go.Proofs.YtefogfgddofdmaaGreatDoor
