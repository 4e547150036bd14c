/- Contracts of functions that the claim reaches: what each call gives, told in our own logic. Conditions: those of each theorem. -/
import Derived.Test.YtoafigpikgigaaaGreatDoorQ20
open List (length_map)
set_option linter.all false
set_option linter.unusedSimpArgs false
set_option linter.unusedVariables false
namespace Go.Proofs.YtoafigpikgigaaaGreatDoor
open Go.Av
attribute [local irreducible] thenA blockA awp awpOps awpD awp1
attribute [local go_sem_proc] Nat.reduceAdd Nat.reduceMul Nat.reduceEqDiff Nat.reduceBEq Nat.reduceLeDiff
attribute [local go_sem_proc ↓] reduceIte
attribute [local go_sem] if_yes if_no
set_option maxHeartbeats 8000000
set_option maxRecDepth 20000
def closeV (t:Tw):AV:=if chkE t ≠ 0 then .tup [.lst 1 [],.int .i64 (chkE t)] else match clo t t.sts.length with
 | some l=>.tup [.lst 1 (l.map iv),.int .i64 0]
 | none=>.tup [.lst 1 [],.int .i64 7]
theorem c18 (t:Tw):Pure Tryz.prog 18 [t.av] (fun v=>v=closeV t):=by
 have k51:=c32 t
 refine Pure.give Tryz.call18 fun h hall=>?_
 by_cases h0:chkE t=0
 case neg =>
  refine ACalls.of tab mixed Tryz.call18 Tryz.func18 rfl (fi:=⟨23,[],[1],none,[]⟩) rfl rfl (Nat.le_of_ble_eq_true rfl) (by decide) ?_
  unfold startA
  simp only[go_sem]
  repeat' (first|refine st_seq_reg rfl (by first|(simp only[go_sem];rfl)|rfl) (by first|(simp only[go_sem];rfl)|rfl) ?_|refine st_op ?_|refine st_det rfl (by simp (disch:=omega) only[go_sem,wr_i64];rfl) ?_|(refine st_pureE (by first|(simp (disch:=omega) only[go_sem];rfl)|rfl) rfl (k51) (by first|(simp only[go_sem];rfl)|rfl) (by intro n;first|(simp (disch:=omega) only[go_sem];rfl)|rfl) ?_;intro n hn)|(refine st_condS rfl ?_ ?_ <;> intro hg <;> (try simp only[dcT,dcF,bnT,bnF] at hg))|refine st_nil ?_|refine st_tN ?_|refine st_seq ?_|refine st_skip ?_|refine st_ret ?_|refine st_tR ?_)
  all_goals try (exfalso;omega)
  simp (disch:=omega) only[AEnd,Tryz.results18,aresK,fin,go_sem,implies_true,true_and,and_true,List.reverse_cons,List.reverse_nil]
  refine .inl ⟨_,le_nil2 _ 1,?_⟩
  unfold closeV;rw [if_pos h0]
 rw [h0] at k51
 have hT:=townOk h0
 have k85:=c49 t t.sts.length hT.sn hT
 have hE:closeV t=match clo t t.sts.length with
  | some l=>.tup [.lst 1 (l.map iv),.int .i64 0]
  | none=>.tup [.lst 1 [],.int .i64 7]:=by unfold closeV;rw [if_neg (fun e=>e h0)]
 unfold cloV at k85
 cases hc:clo t t.sts.length with
 | none =>
  rw [hc] at k85 hE
  dsimp only at k85 hE
  refine ACalls.of tab mixed Tryz.call18 Tryz.func18 rfl (fi:=⟨23,[],[1],none,[]⟩) rfl rfl (Nat.le_of_ble_eq_true rfl) (by decide) ?_
  unfold startA
  simp only[go_sem]
  repeat' (first|refine st_seq_reg rfl (by first|(simp only[go_sem,Lm];rfl)|rfl) (by first|(simp only[go_sem,Lm];rfl)|rfl) ?_|refine st_op ?_|refine st_det rfl (by simp (disch:=omega) only[go_sem,wr_i64,Lm];rfl) ?_|(refine st_pureE (by first|(simp (disch:=omega) only[go_sem,Lm];rfl)|rfl) rfl (k51) (by first|(simp only[go_sem,Lm];rfl)|rfl) (by intro n;first|(simp (disch:=omega) only[go_sem];rfl)|rfl) ?_;intro n hn)|(refine st_pureE (by first|(simp (disch:=omega) only[go_sem,Lm];rfl)|rfl) rfl (k85) (by first|(simp only[go_sem,Lm];rfl)|rfl) (by intro n;first|(simp (disch:=omega) only[go_sem];rfl)|rfl) ?_;intro n hn)|refine st_condT rfl ?_|refine st_condF rfl ?_|refine st_nil ?_|refine st_tN ?_|refine st_seq ?_|refine st_skip ?_|refine st_ret ?_|refine st_tR ?_)
  all_goals try (exfalso;omega)
  simp (disch:=omega) only[AEnd,Tryz.results18,aresK,fin,go_sem,implies_true,true_and,and_true,List.reverse_cons,List.reverse_nil]
  exact .inl ⟨_,le_nil2 _ 1,hE.symm⟩
 | some l =>
  rw [hc] at k85 hE
  dsimp only at k85 hE
  refine ACalls.of tab mixed Tryz.call18 Tryz.func18 rfl (fi:=⟨23,[],[1],none,[]⟩) rfl rfl (Nat.le_of_ble_eq_true rfl) (by decide) ?_
  unfold startA
  simp only[go_sem]
  repeat' (first|refine st_seq_reg rfl (by first|(simp only[go_sem,Lm];rfl)|rfl) (by first|(simp only[go_sem,Lm];rfl)|rfl) ?_|refine st_op ?_|refine st_det rfl (by simp (disch:=omega) only[go_sem,wr_i64,Lm];rfl) ?_|(refine st_pureE (by first|(simp (disch:=omega) only[go_sem,Lm];rfl)|rfl) rfl (k51) (by first|(simp only[go_sem,Lm];rfl)|rfl) (by intro n;first|(simp (disch:=omega) only[go_sem];rfl)|rfl) ?_;intro n hn)|(refine st_pureE (by first|(simp (disch:=omega) only[go_sem,Lm];rfl)|rfl) rfl (k85) (by first|(simp only[go_sem,Lm];rfl)|rfl) (by intro n;first|(simp (disch:=omega) only[go_sem];rfl)|rfl) ?_;intro n hn)|refine st_condF rfl ?_|refine st_nil ?_|refine st_tN ?_|refine st_seq ?_|refine st_skip ?_|refine st_ret ?_)
  all_goals try (exfalso;omega)
  simp (disch:=omega) only[AEnd,Tryz.results18,aresK,fin,go_sem,implies_true,true_and,and_true,List.reverse_cons,List.reverse_nil]
  exact .inl ⟨_,VLe.refl _,hE.symm⟩
def shF (s:Nat→Int) (i:Nat):Int:=sumF (fun i=>if s i=2 then 1 else 0) i
theorem c71 (n w:Int) (h1:0≤n∧n≤1000):Pure Tryz.prog 71 ([.int .i64 n,.int .i64 w] ++ []) (fun v=>v=.int .i64 (n+if w=2 then 1 else 0)):=by
 intro h
 refine ACalls.forget (ACalls.of tab mixed Tryz.call71 Tryz.func71 rfl (fi:=⟨10,[],[],none,[]⟩) rfl rfl (Nat.le_of_ble_eq_true rfl) (by decide) ?_)
 unfold startA
 repeat' (first|refine st_seq_reg rfl (by first|(simp only[go_sem];rfl)|rfl) (by first|(simp only[go_sem];rfl)|rfl) ?_|refine st_reg rfl (by first|(simp only[go_sem];rfl)|rfl) (by first|(simp only[go_sem];rfl)|rfl) ?_|refine st_op ?_|refine st_det rfl (by simp (disch:=omega) only[go_sem,wr_i64];rfl) ?_|(refine st_condS rfl ?_ ?_ <;> intro hg <;> (try simp only[dcT,dcF,bnT,bnF] at hg))|refine st_nil ?_|refine st_tN ?_|refine st_seq ?_|refine st_skip ?_|refine st_ret ?_)
 ·simp (disch:=omega) only[AEnd,Tryz.results71,aresK,fin,go_sem,implies_true,true_and,and_true,List.reverse_cons,List.reverse_nil]
 ·simp (disch:=omega) only[AEnd,Tryz.results71,aresK,fin,go_sem,implies_true,true_and,and_true,List.reverse_cons,List.reverse_nil]
  rw [Int.add_zero]
theorem shF_bd (s:Nat→Int):∀ i,0≤shF s i∧shF s i≤i
 | 0=>by simp [shF,sumF]
 | i+1=>by
  have ih:=shF_bd s i
  have e:shF s (i+1)=shF s i+if s i=2 then 1 else 0:=rfl
  rw [e];split <;> omega
theorem stR_map (f:Nat→Int):(stR f).map (fun x=>[x])=((List.range 12).map f).map iv:=by
 unfold stR;rw [List.map_map,List.map_map];rfl
theorem stR_elt (f:Nat→Int) (i:Nat) (h:i < 12):elt ((List.range 12).map f) i=f i:=by
 unfold elt;rw [List.getD_eq_getElem?_getD,List.getElem?_map,List.getElem?_range h];rfl
theorem c70 (f:Nat→Int):Pure Tryz.prog 70 [.lst 1 ((stR f).map (fun x=>[x])),.int .i64 0,.fn (.func 71) [] []] (fun v=>v=.int .i64 (shF f 12)):=by
 rw [stR_map]
 have hl:((List.range 12).map f).length=12:=by simp
 have hel:=stR_elt f
 generalize (List.range 12).map f=l at *
 intro h
 refine ACalls.forget (ACalls.of tab mixed Tryz.call70 Tryz.func70 rfl (fi:=⟨21,[],[],none,[]⟩) rfl rfl (Nat.le_of_ble_eq_true rfl) (by decide) ?_)
 unfold startA
 repeat' (first|refine st_seq_reg rfl (by first|(simp only[go_sem,Lm,hl];rfl)|rfl) (by first|(simp only[go_sem,Lm,hl];rfl)|rfl) ?_|refine st_op ?_|refine st_det rfl (by simp (disch:=omega) only[go_sem,wr_i64,Lm,hl];rfl) ?_|refine st_nil ?_|refine st_seq ?_|refine st_block ?_)
 refine st_loopC (α:=Nat) tab mixed [] [] (by repeat (first|exact trivial|refine ⟨rfl,?_⟩)) [] [] (by repeat (first|exact trivial|refine ⟨rfl,?_⟩)) (fun i=>[(11,.int .i64 (i:Nat)),(1,.int .i64 (shF f i))]) [(2,_),(9,_),(10,_)] (fun _=>[]) [] (fun i=>i≤12) (fun i=>12 - i) (by decide) 0 (Nat.zero_le _) (by (try simp only[go_sem]);repeat' (first|exact trivial|refine And.intro ?_ ?_|rfl|(simp (disch:=omega) only[go_sem,if_yes,if_no,if_no];rfl)|(simp (disch:=omega) only[go_sem,if_yes,if_no,if_no]))) (by (try simp only[go_sem]);repeat' (first|exact trivial|refine And.intro ?_ ?_|rfl|(simp (disch:=omega) only[go_sem,if_yes,if_no,if_no];rfl)|(simp (disch:=omega) only[go_sem,if_yes,if_no,if_no]))) (by first|(simp only[go_sem];rfl)|rfl) (by intro n;simp only[go_sem];rfl) ?_
 rintro i c i1 hc
 simp only[go_sem]
 by_cases hi:i < 12
 case pos =>
  have e:=hel i hi
  have b:=shF_bd f i
  have k:=c71 (shF f i) (f i) (by omega)
  have e1:shF f (i+1)=shF f i+if f i=2 then 1 else 0:=rfl
  rw [← e1] at k
  repeat' (first|refine st_seq_reg rfl (by first|(simp only[go_sem,Lm,hl,e];rfl)|rfl) (by first|(simp only[go_sem,Lm,hl,e];rfl)|rfl) ?_|refine st_reg rfl (by first|(simp only[go_sem,Lm,hl,e];rfl)|rfl) (by first|(simp only[go_sem,Lm,hl,e];rfl)|rfl) ?_|refine st_op ?_|refine st_det rfl (by simp (disch:=omega) only[go_sem,wr_i64,Lm,hl,e];rfl) ?_|(refine st_pureV (by first|(simp only[go_sem,Lm,hl,e];rfl)|rfl) (by first|(simp (disch:=omega) only[go_sem,Lm,hl,e];rfl)|rfl) rfl (k) (by first|(simp only[go_sem,Lm,hl,e];rfl)|rfl) (by intro n;first|(simp (disch:=omega) only[go_sem];rfl)|rfl) ?_;intro v n hv hn;subst hv)|(refine st_condS rfl ?_ ?_ <;> intro hg <;> (try simp only[dcT,dcF,bnT,bnF] at hg))|refine st_nil ?_|refine st_tN ?_|refine st_seq ?_|refine st_block ?_|refine st_skip ?_|refine st_exit ?_|refine st_ret ?_|refine st_tE ?_|refine st_bN ?_|refine st_bH ?_)
  all_goals try (exfalso;omega)
  refine ⟨i+1,by show i+1≤_;omega,by show 12 - (i+1) < 12 - i;omega,(by repeat' (first|exact trivial|refine And.intro ?_ ?_|rfl|(simp (disch:=omega) only[go_sem,if_yes,if_no,if_no];rfl)|(simp (disch:=omega) only[go_sem,if_yes,if_no,if_no]))),(by repeat' (first|exact trivial|refine And.intro ?_ ?_|rfl|(simp (disch:=omega) only[go_sem,if_yes,if_no,if_no];rfl)|(simp (disch:=omega) only[go_sem,if_yes,if_no,if_no]))),rfl,(by first|exact HOld.of _ (by omega)|exact HOld.put _ _ _ (by omega))⟩
 obtain rfl:i=12:=by omega
 repeat' (first|refine st_seq_reg rfl (by first|(simp only[go_sem,Lm];rfl)|rfl) (by first|(simp only[go_sem,Lm];rfl)|rfl) ?_|refine st_op ?_|refine st_det rfl (by simp (disch:=omega) only[go_sem,wr_i64,Lm];rfl) ?_|refine st_condF rfl ?_|refine st_nil ?_|refine st_tN ?_|refine st_seq ?_|refine st_exit ?_|refine st_ret ?_|refine st_tE ?_|refine st_bH ?_)
 all_goals try (exfalso;omega)
 simp (disch:=omega) only[AEnd,Tryz.results70,aresK,fin,go_sem,implies_true,true_and,and_true,List.reverse_cons,List.reverse_nil]
theorem c51 (f:Nat→Int):Pure Tryz.prog 51 [.agg (stR f)] (fun v=>v=.int .i64 (shF f 12)):=by
 have k:Pure Tryz.prog 70 [.lstx 1 ((stR f).map (fun x=>[x])),.int .i64 0,.fn (.func 71) [] []] (fun v=>v=.int .i64 (shF f 12)):=fun h=>by
  have H:=c70 f h
  refine ⟨H.1,fun c xs hh hv=>H.2 c xs hh (VLes.rel ?_ hv)⟩
  simp only[VLes]
  exact ⟨_,_,rfl,VLe.lstx 1 _,_,_,rfl,VLe.refl _,_,_,rfl,VLe.refl _,rfl⟩
 intro h
 refine ACalls.forget (ACalls.of tab mixed Tryz.call51 Tryz.func51 rfl (fi:=⟨5,[],[1],none,[]⟩) rfl rfl (Nat.le_of_ble_eq_true rfl) (by decide) ?_)
 unfold startA
 repeat' (first|refine st_seq_reg rfl (by first|(simp only[go_sem];rfl)|rfl) (by first|(simp only[go_sem];rfl)|rfl) ?_|refine st_op ?_|refine st_det rfl (by simp (disch:=omega) only[go_sem,wr_i64];rfl) ?_|(refine st_pureE (by first|(simp (disch:=omega) only[go_sem];rfl)|rfl) rfl (k) (by first|(simp only[go_sem];rfl)|rfl) (by intro n;first|(simp (disch:=omega) only[go_sem];rfl)|rfl) ?_;intro n hn)|refine st_nil ?_|refine st_ret ?_)
 simp (disch:=omega) only[AEnd,Tryz.results51,aresK,fin,go_sem,implies_true,true_and,and_true,List.reverse_cons,List.reverse_nil]
end Go.Proofs.YtoafigpikgigaaaGreatDoor

namespace Go.Proofs.YtoafigpikgigaaaGreatDoor
open Go.Av
attribute [local irreducible] thenA blockA awp awpOps awpD awp1
attribute [local go_sem_proc] Nat.reduceAdd Nat.reduceMul Nat.reduceEqDiff Nat.reduceBEq Nat.reduceLeDiff
attribute [local go_sem_proc ↓] reduceIte
attribute [local go_sem] if_yes if_no
set_option maxHeartbeats 8000000
set_option maxRecDepth 20000
def cntZ (s:List Int):Nat:=s.countP fun x=>decide (x=0)
theorem elt_set (s:List Int) (i:Nat) (v:Int) (hi:i < s.length):elt (s.set i v)=upd (elt s) i v:=by
 funext j
 unfold upd
 show (s.set i v).getD j 0=if j=i then v else s.getD j 0
 rw [List.getD_eq_getElem?_getD,List.getElem?_set,List.getD_eq_getElem?_getD]
 by_cases e:i=j
 ·subst e;rw [if_pos rfl,if_pos hi,if_pos rfl];rfl
 ·rw [if_neg e,if_neg (fun q=>e q.symm)]
theorem cntZ_set:∀ (s:List Int) (i:Nat) (v:Int),i < s.length→elt s i=0→v ≠ 0→cntZ (s.set i v)+1=cntZ s
 | [],i,v,h,_,_=>absurd h (Nat.not_lt_zero _)
 | x :: s,0,v,h,h0,hv=>by
  have e:x=0:=h0
  subst e
  simp [cntZ,hv]
 | x :: s,i+1,v,h,h0,hv=>by
  have ih:=cntZ_set s i v (by simpa using h) (by simpa [elt] using h0) hv
  unfold cntZ at *
  rw [List.set_cons_succ,List.countP_cons,List.countP_cons]
  omega
theorem sumF_more {F:Nat→Int} {n:Nat}:∀ {m:Nat},n≤m→(∀ i,n≤i→i < m→F i=0)→sumF F m=sumF F n
  | 0, h, _ => by obtain rfl : n = 0 := by omega
                  rfl
  | m+1,h,hz=>by
    by_cases e:n=m+1
    · rw [e]
    · show sumF F m+F m=_
      rw [sumF_more (m:=m) (by omega) (fun i h1 h2=>hz i h1 (by omega)),hz m (by omega) (by omega),Int.add_zero]
theorem elt_none {s:List Int} {i:Nat} (h:s.length≤i):elt s i=0:=by
 unfold elt;rw [List.getD_eq_getElem?_getD,List.getElem?_eq_none h];rfl
theorem shN_eq (s:List Int) (h:s.length≤12):shF (elt s) 12=shN s:=by
 unfold shF shN
 exact sumF_more h fun i h1 _=>by rw [if_neg (by rw [elt_none h1];decide)]
def rn (l:List Rn) (i:Nat):Rn:=l.getD i ⟨0,0,0,0⟩
@[go_sem] theorem rrow_getD {l:List Rn} {i:Nat} (h:i < l.length):(l.map Rn.row).getD i []=(rn l i).row:=by
 simp [List.getD_eq_getElem?_getD,h,rn]
def pcap (b:Nat × Nat) (t:Tw) (most:Int) (p:List Rn):List AV:=[.ptr b 0 0,.iptr [.lst 4 (p.map Rn.row)] 0,.iptr [.int .i64 most] 0,.iptr t.cells 0]
@[go_sem] theorem pknot (b:Nat × Nat) (t:Tw) (most:Int) (p:List Rn) (d:Nat):knot (.func 50) (pcap b t most p) (d+1)=.iptr [.fn (.func 50) [] [.ptr b 0 0,.iptr [.lst 4 (p.map Rn.row)] 0,.iptr [.int .i64 most] 0,.iptr t.cells 0,knot (.func 50) (pcap b t most p) d]] 0:=rfl
theorem rn_eq3 (r:Rn):([(IntKind.i64,r.kind),(.i64,r.st),(.i64,r.sq),(.i64,r.step)]=[(IntKind.i64,(3:Int)),(.i64,0),(.i64,0),(.i64,0)]) ↔ r=⟨3,0,0,0⟩:=by
 cases r;simp
theorem rn_eq2 (r:Rn):([(IntKind.i64,r.kind),(.i64,r.st),(.i64,r.sq),(.i64,r.step)]=[(IntKind.i64,(2:Int)),(.i64,0),(.i64,r.sq),(.i64,r.step)]) ↔ r.kind=2∧r.st=0:=by
 simp
theorem rn_eq1 (r:Rn):([(IntKind.i64,r.kind),(.i64,r.st),(.i64,r.sq),(.i64,r.step)]=[(IntKind.i64,(1:Int)),(.i64,r.st),(.i64,0),(.i64,0)]) ↔ r.kind=1∧r.sq=0∧r.step=0:=by
 simp
def W69 (t:Tw) (most:Int) (p:List Rn) (b:Nat × Nat) (k d:Nat) (s:List Int) (i:Nat) (h:AH):Prop :=
  ACalls Tryz.prog 50 [.agg (stR (elt s)),.ptr b 0 0,.iptr [.lst 4 (p.map Rn.row)] 0,.iptr [.int .i64 most] 0,.iptr t.cells 0,knot (.func 50) (pcap b t most p) d] h
   (fun v h'=>h.clk≤h'.clk∧h'.lp=h.lp∧(∀ b':Bid,b' ≠ b→b'.1 < h.clk→h'.at_ b'=h.at_ b')∧∃ i',i'≤p.length∧h'.at_ b=some ⟨1,[[.int .i64 ((i':Nat):Int)]]⟩∧((v=.bool true∧pvd t most k s (p.drop i)=some (p.drop i')) ∨ (v=.bool false∧pvd t most k s (p.drop i)=none)))
end Go.Proofs.YtoafigpikgigaaaGreatDoor

namespace Go.Proofs.YtoafigpikgigaaaGreatDoor
open Go.Av
attribute [local irreducible] thenA blockA awp awpOps awpD awp1
attribute [local go_sem_proc] Nat.reduceAdd Nat.reduceMul Nat.reduceEqDiff Nat.reduceBEq Nat.reduceLeDiff
attribute [local go_sem_proc ↓] reduceIte
attribute [local go_sem] if_yes if_no
set_option maxHeartbeats 8000000
set_option maxRecDepth 20000
theorem w69_end (t:Tw) (most:Int) (p:List Rn) (b:Nat × Nat) (k d:Nat) (s:List Int) (i:Nat) (h:AH) (hT:TwOk t) (hp:p.length≤1000000) (hsl:s.length=t.sts.length) (hb:h.at_ b=some ⟨1,[[.int .i64 (i:Nat)]]⟩) (hlt:i=p.length):W69 t most p b (k+1) d s i h:=by
 subst hlt
 have hP:pvd t most (k+1) s (p.drop p.length)=none:=by rw [List.drop_length];rfl
 unfold W69
 refine ACalls.of tab mixed Tryz.call50 Tryz.func50 rfl (fi:=⟨105,[8],[6,41,48,80],none,[(6,[0,1,0,7,15],[(0,true),(2,true),(1,false),(3,false),(4,false)]),(8,[0,1,3,7,0,16,48,127,255,511,1023,511,2559,6655,16383,32767,65535,131071,131071,131071,655359,131071,2228223,8388607,16777215,131071,33685503,131071,134348799,503447551,1040318463,2147483647,4294967295,8589934591],[(0,false),(1,true),(2,false),(3,false),(4,false),(5,true),(6,false),(7,false),(8,false),(9,false),(10,true),(11,false),(12,true),(13,false),(14,false),(15,false),(16,false),(17,true),(18,true),(19,false),(20,true),(21,false),(22,true),(25,false),(26,true),(27,false),(28,true),(29,false),(30,true),(23,false),(24,false),(31,false),(32,false),(33,false)]),(10,[0,1,3,7,0,16,48,127,255,511,1023,2047,4095,8191,16383,32767,65535,65535,65535,327679,983039,2097151,4194303,8388607,16777215,16777215,16777215,83886079,251658239,536870911,1073741823,2147483647],[(0,false),(1,true),(2,false),(3,false),(4,false),(5,true),(6,false),(7,false),(8,false),(9,false),(10,true),(11,false),(12,true),(13,false),(14,false),(15,false),(16,true),(17,true),(18,false),(19,true),(20,false),(21,false),(22,false),(23,false),(24,true),(25,true),(26,false),(27,true),(28,false),(29,false),(30,false),(31,false)])]⟩) rfl rfl (Nat.le_of_ble_eq_true rfl) (by decide) ?_
 unfold startA
 unfold Tw.cells
 repeat' (first|refine st_seq_reg rfl (by first|(simp only[go_sem,Lm,hb];rfl)|rfl) (by first|(simp only[go_sem,Lm,hb];rfl)|rfl) ?_|refine st_op ?_|refine st_det rfl (by simp (disch:=omega) only[go_sem,wr_i64,Lm,hb];rfl) ?_|refine st_condT rfl ?_|refine st_nil ?_|refine st_seq ?_|refine st_ret ?_|refine st_tR ?_)
 all_goals try (exfalso;omega)
 simp (disch:=omega) only[AEnd,Tryz.results50,aresK,fin,go_sem,implies_true,true_and,and_true,List.reverse_cons,List.reverse_nil]
 exact ⟨by omega,_,Nat.le_refl _,hb,.inr hP⟩
theorem w69_many (t:Tw) (most:Int) (p:List Rn) (b:Nat × Nat) (k d:Nat) (s:List Int) (i:Nat) (h:AH) (hT:TwOk t) (hp:p.length≤1000000) (hsl:s.length=t.sts.length) (hb:h.at_ b=some ⟨1,[[.int .i64 (i:Nat)]]⟩) (hlt:i < p.length) (h3:rn p i=⟨3,0,0,0⟩):W69 t most p b (k+1) d s i h:=by
 have hsn:=hT.sn
 have hdr:p.drop i=rn p i :: p.drop (i+1):=drop_getD _ hlt
 unfold W69
 rw [hdr]
 generalize hr:rn p i=r at *
 have k70:=c51 (elt s)
 rw [shN_eq s (by omega)] at k70
 have hP:pvd t most (k+1) s (r :: p.drop (i+1))=if most < shN s then some (p.drop (i+1)) else none:=by
  show (if r=⟨3,0,0,0⟩ then _ else _)=_;rw [if_pos h3]
 have d3:decide ([(IntKind.i64,r.kind),(.i64,r.st),(.i64,r.sq),(.i64,r.step)]=[(IntKind.i64,(3:Int)),(.i64,0),(.i64,0),(.i64,0)])=true:=decide_eq_true ((rn_eq3 r).2 h3)
 refine ACalls.of tab mixed Tryz.call50 Tryz.func50 rfl (fi:=⟨105,[8],[6,41,48,80],none,[(6,[0,1,0,7,15],[(0,true),(2,true),(1,false),(3,false),(4,false)]),(8,[0,1,3,7,0,16,48,127,255,511,1023,511,2559,6655,16383,32767,65535,131071,131071,131071,655359,131071,2228223,8388607,16777215,131071,33685503,131071,134348799,503447551,1040318463,2147483647,4294967295,8589934591],[(0,false),(1,true),(2,false),(3,false),(4,false),(5,true),(6,false),(7,false),(8,false),(9,false),(10,true),(11,false),(12,true),(13,false),(14,false),(15,false),(16,false),(17,true),(18,true),(19,false),(20,true),(21,false),(22,true),(25,false),(26,true),(27,false),(28,true),(29,false),(30,true),(23,false),(24,false),(31,false),(32,false),(33,false)]),(10,[0,1,3,7,0,16,48,127,255,511,1023,2047,4095,8191,16383,32767,65535,65535,65535,327679,983039,2097151,4194303,8388607,16777215,16777215,16777215,83886079,251658239,536870911,1073741823,2147483647],[(0,false),(1,true),(2,false),(3,false),(4,false),(5,true),(6,false),(7,false),(8,false),(9,false),(10,true),(11,false),(12,true),(13,false),(14,false),(15,false),(16,true),(17,true),(18,false),(19,true),(20,false),(21,false),(22,false),(23,false),(24,true),(25,true),(26,false),(27,true),(28,false),(29,false),(30,false),(31,false)])]⟩) rfl rfl (Nat.le_of_ble_eq_true rfl) (by decide) ?_
 unfold startA
 unfold Tw.cells
 repeat' (first|refine st_seq_reg rfl (by first|(simp only[go_sem,Lm,hb,hr,d3];rfl)|rfl) (by first|(simp only[go_sem,Lm,hb,hr,d3];rfl)|rfl) ?_|refine st_seq_draw rfl (by first|(simp only[go_sem,Lm,hb,hr,d3];rfl)|rfl) (by first|(simp only[go_sem,Lm,hb,hr,d3];rfl)|rfl) ?_|refine st_op ?_|refine st_det rfl (by simp (disch:=omega) only[go_sem,wr_i64,Lm,hb,hr,d3];rfl) ?_|refine st_dop rfl ?_|refine st_loc rfl (by simp (disch:=omega) only[go_sem,wr_i64,Lm,hb,hr,d3];rfl) ?_|refine st_store (by simp (disch:=omega) only[go_sem,wr_i64,Lm,hb,hr,d3];rfl) ?_|(refine st_pureE (by first|(simp (disch:=omega) only[go_sem,Lm,hb,hr,d3];rfl)|rfl) rfl (k70) (by first|(simp only[go_sem,Lm,hb,hr,d3];rfl)|rfl) (by intro n;first|(simp (disch:=omega) only[go_sem];rfl)|rfl) ?_;intro n hn)|refine st_condT rfl ?_|(refine st_condS rfl ?_ ?_ <;> intro hg <;> (try simp only[dcT,dcF,bnT,bnF] at hg))|refine st_nil ?_|refine st_dnil ?_|refine st_tN ?_|refine st_seq ?_|refine st_block ?_|refine st_skip ?_|refine st_ret ?_|refine st_tR ?_|refine st_bR ?_)
 all_goals try (exfalso;omega)
 simp (disch:=omega) only[AEnd,Tryz.results50,aresK,fin,go_sem,implies_true,true_and,and_true,List.reverse_cons,List.reverse_nil]
 refine ⟨by omega,fun b' q _=>if_neg q,i+1,hlt,rfl,?_⟩
 rw [hP]
 by_cases hm:most < shN s
 ·rw [if_pos hm];exact .inl ⟨by rw [decide_eq_true hm],rfl⟩
 ·rw [if_neg hm];exact .inr ⟨by rw [decide_eq_false hm],rfl⟩
theorem w69_none (t:Tw) (most:Int) (p:List Rn) (b:Nat × Nat) (k d:Nat) (s:List Int) (i:Nat) (h:AH) (hT:TwOk t) (hp:p.length≤1000000) (hsl:s.length=t.sts.length) (hb:h.at_ b=some ⟨1,[[.int .i64 (i:Nat)]]⟩) (hlt:i < p.length) (h3:¬ rn p i=⟨3,0,0,0⟩) (h2:¬ ((rn p i).kind=2∧(rn p i).st=0)) (h1:¬ ((rn p i).kind=1∧(rn p i).sq=0∧(rn p i).step=0)):W69 t most p b (k+1) d s i h:=by
 have hsn:=hT.sn
 have hdr:p.drop i=rn p i :: p.drop (i+1):=drop_getD _ hlt
 unfold W69
 rw [hdr]
 generalize hr:rn p i=r at *
 have hP:pvd t most (k+1) s (r :: p.drop (i+1))=none:=by
  show (if r=⟨3,0,0,0⟩ then _ else if _ then _ else if _ then _ else _)=_;rw [if_neg h3,if_neg h2,if_neg h1]
 have d3:decide ([(IntKind.i64,r.kind),(.i64,r.st),(.i64,r.sq),(.i64,r.step)]=[(IntKind.i64,(3:Int)),(.i64,0),(.i64,0),(.i64,0)])=false:=decide_eq_false (fun e=>h3 ((rn_eq3 r).1 e))
 have d2:decide ([(IntKind.i64,r.kind),(.i64,r.st),(.i64,r.sq),(.i64,r.step)]=[(IntKind.i64,(2:Int)),(.i64,0),(.i64,r.sq),(.i64,r.step)])=false:=decide_eq_false (fun e=>h2 ((rn_eq2 r).1 e))
 have d1:decide ([(IntKind.i64,r.kind),(.i64,r.st),(.i64,r.sq),(.i64,r.step)]=[(IntKind.i64,(1:Int)),(.i64,r.st),(.i64,0),(.i64,0)])=false:=decide_eq_false (fun e=>h1 ((rn_eq1 r).1 e))
 refine ACalls.of tab mixed Tryz.call50 Tryz.func50 rfl (fi:=⟨105,[8],[6,41,48,80],none,[(6,[0,1,0,7,15],[(0,true),(2,true),(1,false),(3,false),(4,false)]),(8,[0,1,3,7,0,16,48,127,255,511,1023,511,2559,6655,16383,32767,65535,131071,131071,131071,655359,131071,2228223,8388607,16777215,131071,33685503,131071,134348799,503447551,1040318463,2147483647,4294967295,8589934591],[(0,false),(1,true),(2,false),(3,false),(4,false),(5,true),(6,false),(7,false),(8,false),(9,false),(10,true),(11,false),(12,true),(13,false),(14,false),(15,false),(16,false),(17,true),(18,true),(19,false),(20,true),(21,false),(22,true),(25,false),(26,true),(27,false),(28,true),(29,false),(30,true),(23,false),(24,false),(31,false),(32,false),(33,false)]),(10,[0,1,3,7,0,16,48,127,255,511,1023,2047,4095,8191,16383,32767,65535,65535,65535,327679,983039,2097151,4194303,8388607,16777215,16777215,16777215,83886079,251658239,536870911,1073741823,2147483647],[(0,false),(1,true),(2,false),(3,false),(4,false),(5,true),(6,false),(7,false),(8,false),(9,false),(10,true),(11,false),(12,true),(13,false),(14,false),(15,false),(16,true),(17,true),(18,false),(19,true),(20,false),(21,false),(22,false),(23,false),(24,true),(25,true),(26,false),(27,true),(28,false),(29,false),(30,false),(31,false)])]⟩) rfl rfl (Nat.le_of_ble_eq_true rfl) (by decide) ?_
 unfold startA
 unfold Tw.cells
 repeat' (first|refine st_seq_reg rfl (by first|(simp only[go_sem,Lm,hb,hr,d3,d2,d1];rfl)|rfl) (by first|(simp only[go_sem,Lm,hb,hr,d3,d2,d1];rfl)|rfl) ?_|refine st_op ?_|refine st_det rfl (by simp (disch:=omega) only[go_sem,wr_i64,Lm,hb,hr,d3,d2,d1];rfl) ?_|refine st_loc rfl (by simp (disch:=omega) only[go_sem,wr_i64,Lm,hb,hr,d3,d2,d1];rfl) ?_|refine st_store (by simp (disch:=omega) only[go_sem,wr_i64,Lm,hb,hr,d3,d2,d1];rfl) ?_|refine st_condF rfl ?_|(refine st_condS rfl ?_ ?_ <;> intro hg <;> (try simp only[dcT,dcF,bnT,bnF] at hg))|refine st_nil ?_|refine st_tN ?_|refine st_seq ?_|refine st_block ?_|refine st_skip ?_|refine st_ret ?_|refine st_tR ?_|refine st_bN ?_)
 all_goals try (exfalso;omega)
 simp (disch:=omega) only[AEnd,Tryz.results50,aresK,fin,go_sem,implies_true,true_and,and_true,List.reverse_cons,List.reverse_nil]
 exact ⟨by omega,fun b' q _=>if_neg q,i+1,hlt,rfl,.inr hP⟩
end Go.Proofs.YtoafigpikgigaaaGreatDoor

namespace Go.Proofs.YtoafigpikgigaaaGreatDoor
open Go.Av
attribute [local irreducible] thenA blockA awp awpOps awpD awp1
attribute [local go_sem_proc] Nat.reduceAdd Nat.reduceMul Nat.reduceEqDiff Nat.reduceBEq Nat.reduceLeDiff
attribute [local go_sem_proc ↓] reduceIte
attribute [local go_sem] if_yes if_no
set_option maxHeartbeats 8000000
set_option maxRecDepth 20000
theorem w69_full (t:Tw) (most:Int) (p:List Rn) (b:Nat × Nat) (k d:Nat) (s:List Int) (i:Nat) (h:AH) (hT:TwOk t) (hp:p.length≤1000000) (hsl:s.length=t.sts.length) (hb:h.at_ b=some ⟨1,[[.int .i64 (i:Nat)]]⟩) (hlt:i < p.length) (h3:¬ rn p i=⟨3,0,0,0⟩) (h2:(rn p i).kind=2∧(rn p i).st=0):W69 t most p b (k+1) d s i h:=by
 have hsn:=hT.sn
 have hdr:p.drop i=rn p i :: p.drop (i+1):=drop_getD _ hlt
 unfold W69
 rw [hdr]
 generalize hr:rn p i=r at *
 have hP:pvd t most (k+1) s (r :: p.drop (i+1))=if 0≤r.sq∧r.sq < t.rooms.length∧0≤r.step∧r.step≤t.steps∧elt t.rooms r.sq.toNat < ldHi t (elt s) r.sq r.step then some (p.drop (i+1)) else none:=by
  show (if r=⟨3,0,0,0⟩ then _ else if _ then _ else _)=_;rw [if_neg h3,if_pos h2]
 have d3:decide ([(IntKind.i64,r.kind),(.i64,r.st),(.i64,r.sq),(.i64,r.step)]=[(IntKind.i64,(3:Int)),(.i64,0),(.i64,0),(.i64,0)])=false:=decide_eq_false (fun e=>h3 ((rn_eq3 r).1 e))
 have d2:decide ([(IntKind.i64,r.kind),(.i64,r.st),(.i64,r.sq),(.i64,r.step)]=[(IntKind.i64,(2:Int)),(.i64,0),(.i64,r.sq),(.i64,r.step)])=true:=decide_eq_true ((rn_eq2 r).2 h2)
 have hst:=hT.steps
 have hrn:=hT.rn
 refine ACalls.of tab mixed Tryz.call50 Tryz.func50 rfl (fi:=⟨105,[8],[6,41,48,80],none,[(6,[0,1,0,7,15],[(0,true),(2,true),(1,false),(3,false),(4,false)]),(8,[0,1,3,7,0,16,48,127,255,511,1023,511,2559,6655,16383,32767,65535,131071,131071,131071,655359,131071,2228223,8388607,16777215,131071,33685503,131071,134348799,503447551,1040318463,2147483647,4294967295,8589934591],[(0,false),(1,true),(2,false),(3,false),(4,false),(5,true),(6,false),(7,false),(8,false),(9,false),(10,true),(11,false),(12,true),(13,false),(14,false),(15,false),(16,false),(17,true),(18,true),(19,false),(20,true),(21,false),(22,true),(25,false),(26,true),(27,false),(28,true),(29,false),(30,true),(23,false),(24,false),(31,false),(32,false),(33,false)]),(10,[0,1,3,7,0,16,48,127,255,511,1023,2047,4095,8191,16383,32767,65535,65535,65535,327679,983039,2097151,4194303,8388607,16777215,16777215,16777215,83886079,251658239,536870911,1073741823,2147483647],[(0,false),(1,true),(2,false),(3,false),(4,false),(5,true),(6,false),(7,false),(8,false),(9,false),(10,true),(11,false),(12,true),(13,false),(14,false),(15,false),(16,true),(17,true),(18,false),(19,true),(20,false),(21,false),(22,false),(23,false),(24,true),(25,true),(26,false),(27,true),(28,false),(29,false),(30,false),(31,false)])]⟩) rfl rfl (Nat.le_of_ble_eq_true rfl) (by decide) ?_
 unfold startA
 unfold Tw.cells
 repeat' (first|refine st_seq_reg rfl (by first|(simp only[go_sem,Lm,hb,hr,d3,d2];rfl)|rfl) (by first|(simp only[go_sem,Lm,hb,hr,d3,d2];rfl)|rfl) ?_|refine st_seq_draw rfl (by first|(simp only[go_sem,Lm,hb,hr,d3,d2];rfl)|rfl) (by first|(simp only[go_sem,Lm,hb,hr,d3,d2];rfl)|rfl) ?_|refine st_op ?_|refine st_det rfl (by simp (disch:=omega) only[go_sem,wr_i64,Lm,hb,hr,d3,d2];rfl) ?_|refine st_dop rfl ?_|refine st_loc rfl (by simp (disch:=omega) only[go_sem,wr_i64,Lm,hb,hr,d3,d2];rfl) ?_|refine st_store (by simp (disch:=omega) only[go_sem,wr_i64,Lm,hb,hr,d3,d2];rfl) ?_|(refine st_pureE (by first|(simp (disch:=omega) only[go_sem,Lm,hb,hr,d3,d2];rfl)|rfl) rfl (c46a 0 (t.rooms.length - 1:Int) r.sq) (by first|(simp only[go_sem,Lm,hb,hr,d3,d2];rfl)|rfl) (by intro n;first|(simp (disch:=omega) only[go_sem];rfl)|rfl) ?_;intro n hn)|(refine st_pureE (by first|(simp (disch:=omega) only[go_sem,Lm,hb,hr,d3,d2];rfl)|rfl) rfl (c46a 0 t.steps r.step) (by first|(simp only[go_sem,Lm,hb,hr,d3,d2];rfl)|rfl) (by intro n;first|(simp (disch:=omega) only[go_sem];rfl)|rfl) ?_;intro n hn)|(refine st_pureE (by first|(simp (disch:=omega) only[go_sem,Lm,hb,hr,d3,d2];rfl)|rfl) rfl (c48 t (elt s) r.sq r.step hT ⟨by omega,by omega⟩) (by first|(simp only[go_sem,Lm,hb,hr,d3,d2];rfl)|rfl) (by intro n;first|(simp (disch:=omega) only[go_sem];rfl)|rfl) ?_;intro n hn)|refine st_dgT rfl rfl rfl rfl ?_|refine st_dgF rfl rfl rfl ?_|(refine st_dgS rfl rfl ?_ ?_ <;> intro hg <;> (try simp only[dcT,dcF,bnT,bnF] at hg))|refine st_condT rfl ?_|refine st_condF rfl ?_|(refine st_condS rfl ?_ ?_ <;> intro hg <;> (try simp only[dcT,dcF,bnT,bnF] at hg))|refine st_nil ?_|refine st_dnil ?_|refine st_tN ?_|refine st_seq ?_|refine st_block ?_|refine st_skip ?_|refine st_ret ?_|refine st_tR ?_|refine st_bR ?_)
 all_goals try (exfalso;omega)
 all_goals
  simp (disch:=omega) only[AEnd,Tryz.results50,aresK,fin,go_sem,implies_true,true_and,and_true,List.reverse_cons,List.reverse_nil]
  refine ⟨by omega,fun b' q _=>if_neg q,i+1,hlt,rfl,?_⟩
  rw [hP]
 ·by_cases hm:elt t.rooms r.sq.toNat < ldHi t (elt s) r.sq r.step
  ·rw [if_pos (by omega)];exact .inl ⟨by rw [decide_eq_true hm],rfl⟩
  ·rw [if_neg (by omega)];exact .inr ⟨by rw [decide_eq_false hm],rfl⟩
 all_goals
  rw [if_neg (by omega)];first|exact .inr ⟨rfl,rfl⟩|exact .inr rfl|simp
end Go.Proofs.YtoafigpikgigaaaGreatDoor
