/- Contracts of functions that the claim reaches: what each call gives, told in our own logic. Conditions: those of each theorem. -/
import Derived.Test.YtoafigpikgigaaaGreatDoorQ24
import Derived.Test.YtoafigpikgigaaaGreatDoorBaseD
import Derived.Test.YtoafigpikgigaaaGreatDoorQ9
open List (length_map)
set_option linter.all false
set_option linter.unusedSimpArgs false
set_option linter.unusedVariables false
namespace Go.Proofs.YtoafigpikgigaaaGreatDoor
open Go.Av
attribute [local irreducible] thenA blockA awp awpOps awpD awp1
attribute [local go_sem_proc] Nat.reduceAdd Nat.reduceMul Nat.reduceEqDiff Nat.reduceBEq Nat.reduceLeDiff
attribute [local go_sem_proc ↓] reduceIte
attribute [local go_sem] if_yes if_no
set_option maxHeartbeats 8000000
set_option maxRecDepth 20000
theorem c53 (t:Tw) (c:List Int) (sq:Int) (F:Nat) (cap:List AV) (hT:TwOk t) (hcl:c.length≤1000000) (hcap:cap.all noL=true) (I:Nat→AH→Prop) (hI:∀ i g n,I i g→g.clk≤n→I i (g.tick n))
  (hno:∀ i g,i < t.sts.length→¬ (0≤oth (sx t.sts i) sq∧clB c i=false)→I i g→I (i+1) g)
  (hyes:∀ i g,i < t.sts.length→0≤oth (sx t.sts i) sq→clB c i=false→I i g→ACalls Tryz.prog F ([] ++ [.int .i64 (oth (sx t.sts i) sq)] ++ cap) g (fun _ h'=>I (i+1) h')) (h:AH) (h0:I 0 h) :
  ACalls Tryz.prog 53 [.int .i64 sq,.fn (.func F) [] cap,.iptr t.cells 0,.iptr [.lst 1 (c.map iv)] 0] h (fun _ h'=>I t.sts.length h'):=by
 have hsn:=hT.sn
 refine ACalls.of tab mixed Tryz.call53 Tryz.func53 rfl (fi:=⟨32,[7],[],none,[]⟩) rfl rfl (Nat.le_of_ble_eq_true rfl) (by decide) ?_
 unfold startA
 unfold Tw.cells
 repeat' (first|refine st_seq_reg rfl (by first|(simp only[go_sem,Lm];rfl)|rfl) (by first|(simp only[go_sem,Lm];rfl)|rfl) ?_|refine st_op ?_|refine st_det rfl (by simp (disch:=omega) only[go_sem,wr_i64,Lm];rfl) ?_|refine st_nil ?_|refine st_block ?_)
 refine st_loopH (α:=Nat × AH) tab mixed [] [] (by repeat (first|exact trivial|refine ⟨rfl,?_⟩)) [] [] (by repeat (first|exact trivial|refine ⟨rfl,?_⟩)) (fun a=>[(12,.int .i64 (a.1:Nat))]) [(0,_),(1,_),(3,_),(10,_),(11,_)] (fun _=>[]) [] (fun a=>a.2) (fun a=>a.1≤t.sts.length∧I a.1 a.2) (fun a=>t.sts.length - a.1) (by decide) (0,h) ⟨Nat.zero_le _,h0⟩ (by (try simp only[go_sem]);repeat' (first|exact trivial|refine And.intro ?_ ?_|rfl|(simp (disch:=omega) only[go_sem,if_yes,if_no,if_no];rfl)|(simp (disch:=omega) only[go_sem,if_yes,if_no,if_no]))) (by (try simp only[go_sem]);repeat' (first|exact trivial|refine And.intro ?_ ?_|rfl|(simp (disch:=omega) only[go_sem,if_yes,if_no,if_no];rfl)|(simp (disch:=omega) only[go_sem,if_yes,if_no,if_no]))) (HOld.tick (by simp only[go_sem];omega)) ?_
 rintro ⟨i,g⟩ d ⟨i1,i2⟩ hd
 dsimp only at i1 i2 hd
 simp only[go_sem]
 by_cases hi:i < t.sts.length
 case neg =>
  obtain rfl:i=t.sts.length:=by omega
  repeat' (first|refine st_seq_reg rfl (by first|(simp only[go_sem,Lm];rfl)|rfl) (by first|(simp only[go_sem,Lm];rfl)|rfl) ?_|refine st_op ?_|refine st_det rfl (by simp (disch:=omega) only[go_sem,wr_i64,Lm];rfl) ?_|refine st_loc rfl (by simp (disch:=omega) only[go_sem,wr_i64,Lm];rfl) ?_|refine st_store (by simp (disch:=omega) only[go_sem,wr_i64,Lm];rfl) ?_|(refine st_condS rfl ?_ ?_ <;> intro hg <;> (try simp only[dcT,dcF,bnT,bnF] at hg))|refine st_nil ?_|refine st_tN ?_|refine st_seq ?_|refine st_block ?_|refine st_skip ?_|refine st_exit ?_|refine st_tE ?_|refine st_bH ?_)
  all_goals try (exfalso;omega)
  simp (disch:=omega) only[AEnd,Tryz.results53,aresK,fin,go_sem,implies_true,true_and,and_true,List.reverse_cons,List.reverse_nil]
  exact hI _ _ _ i2 (by omega)
 have k76:=c54 (sx t.sts i) sq
 have k77:=c55 c (i:Nat) hcl
 have ecl:c.contains ((i:Nat):Int)=clB c i:=rfl
 rw [ecl] at k77
 by_cases ho:0≤oth (sx t.sts i) sq
 case neg =>
  have hnn:=hno i g hi (fun e=>ho e.1) i2
  repeat' (first|refine st_seq_reg rfl (by first|(simp only[go_sem,Lm];rfl)|rfl) (by first|(simp only[go_sem,Lm];rfl)|rfl) ?_|refine st_reg rfl (by first|(simp only[go_sem,Lm];rfl)|rfl) (by first|(simp only[go_sem,Lm];rfl)|rfl) ?_|refine st_op ?_|refine st_det rfl (by simp (disch:=omega) only[go_sem,wr_i64,Lm];rfl) ?_|refine st_loc rfl (by simp (disch:=omega) only[go_sem,wr_i64,Lm];rfl) ?_|refine st_store (by simp (disch:=omega) only[go_sem,wr_i64,Lm];rfl) ?_|(refine st_pureE (by first|(simp (disch:=omega) only[go_sem,Lm];rfl)|rfl) rfl (k76) (by first|(simp only[go_sem,Lm];rfl)|rfl) (by intro n;first|(simp (disch:=omega) only[go_sem];rfl)|rfl) ?_;intro n hn)|refine st_gT rfl rfl rfl ?_|refine st_gF rfl rfl rfl ?_|(refine st_gS rfl rfl ?_ ?_ <;> intro hg <;> (try simp only[dcT,dcF,bnT,bnF] at hg))|refine st_condF rfl ?_|(refine st_condS rfl ?_ ?_ <;> intro hg <;> (try simp only[dcT,dcF,bnT,bnF] at hg))|refine st_nil ?_|refine st_tN ?_|refine st_seq ?_|refine st_block ?_|refine st_skip ?_|refine st_exit ?_|refine st_tE ?_|refine st_bN ?_|refine st_bH ?_)
  all_goals try (exfalso;omega)
  refine ⟨(i+1,g),⟨by show i+1≤_;omega,hnn⟩,by show t.sts.length - (i+1) < t.sts.length - i;omega,(by repeat' (first|exact trivial|refine And.intro ?_ ?_|rfl|(simp (disch:=omega) only[go_sem,if_yes,if_no,if_no];rfl)|(simp (disch:=omega) only[go_sem,if_yes,if_no,if_no]))),(by repeat' (first|exact trivial|refine And.intro ?_ ?_|rfl|(simp (disch:=omega) only[go_sem,if_yes,if_no,if_no];rfl)|(simp (disch:=omega) only[go_sem,if_yes,if_no,if_no]))),rfl,HOld.tick (by simp only[go_sem];omega)⟩
 cases hb:clB c i with
 | true =>
  rw [hb] at k77
  have hnn:=hno i g hi (fun e=>by rw [hb] at e;exact absurd e.2 (by decide)) i2
  repeat' (first|refine st_seq_reg rfl (by first|(simp only[go_sem,Lm];rfl)|rfl) (by first|(simp only[go_sem,Lm];rfl)|rfl) ?_|refine st_reg rfl (by first|(simp only[go_sem,Lm];rfl)|rfl) (by first|(simp only[go_sem,Lm];rfl)|rfl) ?_|refine st_op ?_|refine st_det rfl (by simp (disch:=omega) only[go_sem,wr_i64,Lm];rfl) ?_|refine st_loc rfl (by simp (disch:=omega) only[go_sem,wr_i64,Lm];rfl) ?_|refine st_store (by simp (disch:=omega) only[go_sem,wr_i64,Lm];rfl) ?_|(refine st_pureE (by first|(simp (disch:=omega) only[go_sem,Lm];rfl)|rfl) rfl (k76) (by first|(simp only[go_sem,Lm];rfl)|rfl) (by intro n;first|(simp (disch:=omega) only[go_sem];rfl)|rfl) ?_;intro n hn)|(refine st_pureE (by first|(simp (disch:=omega) only[go_sem,Lm];rfl)|rfl) rfl (k77) (by first|(simp only[go_sem,Lm];rfl)|rfl) (by intro n;first|(simp (disch:=omega) only[go_sem];rfl)|rfl) ?_;intro n hn)|refine st_gT rfl rfl rfl ?_|refine st_gF rfl rfl rfl ?_|(refine st_gS rfl rfl ?_ ?_ <;> intro hg <;> (try simp only[dcT,dcF,bnT,bnF] at hg))|refine st_condF rfl ?_|(refine st_condS rfl ?_ ?_ <;> intro hg <;> (try simp only[dcT,dcF,bnT,bnF] at hg))|refine st_nil ?_|refine st_tN ?_|refine st_seq ?_|refine st_block ?_|refine st_skip ?_|refine st_exit ?_|refine st_tE ?_|refine st_bN ?_|refine st_bH ?_)
  all_goals try (exfalso;omega)
  refine ⟨(i+1,g),⟨by show i+1≤_;omega,hnn⟩,by show t.sts.length - (i+1) < t.sts.length - i;omega,(by repeat' (first|exact trivial|refine And.intro ?_ ?_|rfl|(simp (disch:=omega) only[go_sem,if_yes,if_no,if_no];rfl)|(simp (disch:=omega) only[go_sem,if_yes,if_no,if_no]))),(by repeat' (first|exact trivial|refine And.intro ?_ ?_|rfl|(simp (disch:=omega) only[go_sem,if_yes,if_no,if_no];rfl)|(simp (disch:=omega) only[go_sem,if_yes,if_no,if_no]))),rfl,HOld.tick (by simp only[go_sem];omega)⟩
 | false =>
  rw [hb] at k77
  have hy:∀ n,g.clk≤n→_:=fun n hn=>hyes i (g.tick n) hi ho hb (hI _ _ _ i2 hn)
  repeat' (first|refine st_seq_reg rfl (by first|(simp only[go_sem,Lm];rfl)|rfl) (by first|(simp only[go_sem,Lm];rfl)|rfl) ?_|refine st_reg rfl (by first|(simp only[go_sem,Lm];rfl)|rfl) (by first|(simp only[go_sem,Lm];rfl)|rfl) ?_|refine st_op ?_|refine st_det rfl (by simp (disch:=omega) only[go_sem,wr_i64,Lm];rfl) ?_|refine st_loc rfl (by simp (disch:=omega) only[go_sem,wr_i64,Lm];rfl) ?_|refine st_store (by simp (disch:=omega) only[go_sem,wr_i64,Lm];rfl) ?_|(refine st_pureE (by first|(simp (disch:=omega) only[go_sem,Lm];rfl)|rfl) rfl (k76) (by first|(simp only[go_sem,Lm];rfl)|rfl) (by intro n;first|(simp (disch:=omega) only[go_sem];rfl)|rfl) ?_;intro n hn)|(refine st_pureE (by first|(simp (disch:=omega) only[go_sem,Lm];rfl)|rfl) rfl (k77) (by first|(simp only[go_sem,Lm];rfl)|rfl) (by intro n;first|(simp (disch:=omega) only[go_sem];rfl)|rfl) ?_;intro n hn)|(refine st_call (args:=[.int .i64 (oth (sx t.sts i) sq)]) rfl (by first|(simp (disch:=omega) only[go_sem];rfl)|(simp (disch:=omega) only[go_sem])) rfl (hy _ (by omega)) ?_;intro v h' hi2)|refine st_gT rfl rfl rfl ?_|refine st_gF rfl rfl rfl ?_|(refine st_gS rfl rfl ?_ ?_ <;> intro hg <;> (try simp only[dcT,dcF,bnT,bnF] at hg))|refine st_condT rfl ?_|refine st_condF rfl ?_|(refine st_condS rfl ?_ ?_ <;> intro hg <;> (try simp only[dcT,dcF,bnT,bnF] at hg))|refine st_nil ?_|refine st_tN ?_|refine st_seq ?_|refine st_block ?_|refine st_skip ?_|refine st_exit ?_|refine st_tE ?_|refine st_bN ?_|refine st_bH ?_)
  all_goals try (exfalso;omega)
  refine ⟨(i+1,h'),⟨by show i+1≤_;omega,hi2⟩,by show t.sts.length - (i+1) < t.sts.length - i;omega,(by repeat' (first|exact trivial|refine And.intro ?_ ?_|rfl|(simp (disch:=omega) only[go_sem,if_yes,if_no,if_no];rfl)|(simp (disch:=omega) only[go_sem,if_yes,if_no,if_no]))),(by repeat' (first|exact trivial|refine And.intro ?_ ?_|rfl|(simp (disch:=omega) only[go_sem,if_yes,if_no,if_no];rfl)|(simp (disch:=omega) only[go_sem,if_yes,if_no,if_no]))),rfl,HOld.tick (by simp only[go_sem];omega)⟩
end Go.Proofs.YtoafigpikgigaaaGreatDoor

namespace Go.Proofs.YtoafigpikgigaaaGreatDoor
open Go.Av
attribute [local irreducible] thenA blockA awp awpOps awpD awp1
attribute [local go_sem_proc] Nat.reduceAdd Nat.reduceMul Nat.reduceEqDiff Nat.reduceBEq Nat.reduceLeDiff
attribute [local go_sem_proc ↓] reduceIte
attribute [local go_sem] if_yes if_no
set_option maxHeartbeats 8000000
set_option maxRecDepth 20000
def avm (M:List (Int × Int)):List (Int × AV):=M.map fun p=>(p.1,.int .i64 p.2)
theorem aget_avm (q:Int):∀ M,aget (avm M) q=(fndM M q).map fun v=>AV.int .i64 v
 | []=>rfl
 | p :: M=>by
  show (if p.1=q then some (AV.int .i64 p.2) else aget (avm M) q)=_
  rw [aget_avm q M]
  unfold fndM
  rw [List.find?_cons]
  by_cases e:p.1=q
  ·rw [if_pos e,decide_eq_true e];rfl
  ·rw [if_neg e,decide_eq_false e]
theorem aset_avm (q v:Int):∀ M,fndM M q=none→aset (avm M) q (.int .i64 v)=avm (M ++ [(q,v)])
 | [],_=>rfl
 | p :: M,h=>by
  have h1:=fndM_none.1 h
  have e:¬ p.1=q:=fun e=>h1 (by simp [keysM,e])
  have h2:fndM M q=none:=fndM_none.2 (fun hm=>h1 (by unfold keysM at *;simp;right;simpa using hm))
  show (if p.1=q then _ else (p.1,AV.int .i64 p.2) :: aset (avm M) q (.int .i64 v))=_
  rw [if_neg e,aset_avm q v M h2];rfl
def QS (n0:Nat) (g:AH) (v:AV) (qs:List Int):Prop:=∃ (b:Bid) (o:Nat) (es:List (List AV)),v=.slc b 1 o qs.length∧g.at_ b=some ⟨1,es⟩∧o+qs.length≤es.length∧(es.drop o).take qs.length=qs.map iv∧n0≤b.1∧b.1 < g.clk∧(b.2=39 ∨ b.2=24)
theorem QS.noL {n0:Nat} {g:AH} {v:AV} {qs:List Int} (h:QS n0 g v qs):noL v=true:=by
 obtain ⟨b,o,es,rfl,_⟩:=h;rfl
theorem QS.cell {n0:Nat} {g:AH} {v:AV} {qs:List Int} (h:QS n0 g v qs):v.cell=true:=by
 obtain ⟨b,o,es,rfl,_⟩:=h;rfl
theorem QS.same {n0:Nat} {g g':AH} {v:AV} {qs:List Int} (h:QS n0 g v qs) (hk:∀ b:Bid,(b.2=39 ∨ b.2=24)→b.1 < g.clk→g'.at_ b=g.at_ b) (hc:g.clk≤g'.clk):QS n0 g' v qs:=by
 obtain ⟨b,o,es,e,h1,h2,h3,h4,h5,h6⟩:=h
 exact ⟨b,o,es,e,by rw [hk b h6 h5];exact h1,h2,h3,h4,by omega,h6⟩
structure Sch (n0 l:Nat) (b11 b12:Bid) (M:List (Int × Int)) (qs:List Int) (g:AH):Prop where
 m:g.at_ b11=some ⟨1,[[.mp l]]⟩
 lp:g.lp l=some (mrec (avm M))
 q:∃ v,g.at_ b12=some ⟨1,[[v]]⟩∧QS n0 g v qs
theorem Sch.tick {n0 l:Nat} {b11 b12:Bid} {M:List (Int × Int)} {qs:List Int} {g:AH} (h:Sch n0 l b11 b12 M qs g) {n:Nat} (hn:g.clk≤n):Sch n0 l b11 b12 M qs (g.tick n):=by
 obtain ⟨v,h1,h2⟩:=h.q
 exact ⟨h.m,h.lp,v,h1,h2.same (fun _ _ _=>rfl) hn⟩
structure Old (n0 l:Nat) (g g':AH):Prop where
 at_:∀ b:Bid,b.1 < n0→g'.at_ b=g.at_ b
 lp:∀ l',l' ≠ l→g'.lp l'=g.lp l'
 clk:g.clk≤g'.clk
theorem Old.refl (n0 l:Nat) (g:AH):Old n0 l g g:=⟨fun _ _=>rfl,fun _ _=>rfl,Nat.le_refl _⟩
theorem Old.trans {n0 l:Nat} {a b c:AH} (h:Old n0 l a b) (k:Old n0 l b c):Old n0 l a c:=⟨fun x hx=>(k.at_ x hx).trans (h.at_ x hx),fun x hx=>(k.lp x hx).trans (h.lp x hx),Nat.le_trans h.clk k.clk⟩
theorem Old.tick {n0 l:Nat} {g:AH} {n:Nat} (hn:g.clk≤n):Old n0 l g (g.tick n):=⟨fun _ _=>rfl,fun _ _=>rfl,hn⟩
theorem c56old (n0 l:Nat) (b11 b12 b14:Bid) (o at_ d:Int) (M:List (Int × Int)) (qs:List Int) (g:AH) (hS:Sch n0 l b11 b12 M qs g) (hat:g.at_ b14=some ⟨1,[[.int .i64 at_]]⟩) {v:Int} (hf:fndM M o=some v) :
  ACalls Tryz.prog 56 [.int .i64 o,.ptr b11 0 0,.ptr b14 0 0,.ptr b12 0 0] g (fun _ g'=>Old n0 l g g'∧g'.at_ b14=g.at_ b14∧Sch n0 l b11 b12 M qs g'):=by
 have hm:=hS.m
 have hlp:=hS.lp
 refine ACalls.of tab mixed Tryz.call56 Tryz.func56 rfl (fi:=⟨25,[],[23],none,[]⟩) rfl rfl (Nat.le_of_ble_eq_true rfl) (by decide) ?_
 unfold startA
 repeat' (first|refine st_seq_reg rfl (by first|(simp only[go_sem,hm];rfl)|rfl) (by first|(simp only[go_sem,hm];rfl)|rfl) ?_|refine st_op ?_|refine st_det rfl (by simp (disch:=omega) only[go_sem,wr_i64,hm];rfl) ?_|(refine st_mapGet (l:=l) (L:=avm M) Tryz.underlying104 Tryz.underlying3 inf3 rfl (by first|(simp only[go_sem,hm];rfl)|rfl) (by first|(simp only[go_sem];rfl)|rfl) (by first|(simp only[go_sem];exact hlp)|exact hlp) ?_;simp only[aget_avm,hf,Option.map_some,Option.map_none,Option.getD_some,Option.isSome_some,↓reduceIte])|refine st_condF rfl ?_|refine st_nil ?_|refine st_skip ?_)
 all_goals try (exfalso;omega)
 simp (disch:=omega) only[AEnd,Tryz.results56,aresK,fin,go_sem,implies_true,true_and,and_true,List.reverse_cons,List.reverse_nil]
 exact ⟨Old.tick (by omega),hS.tick (by omega)⟩
theorem qs_in {es:List (List AV)} {oo:Nat} {qs:List Int} {o:Int} (q2:oo+qs.length≤es.length) (q3:(es.drop oo).take qs.length=qs.map iv):oo+(qs ++ [o]).length≤(es.take (oo+qs.length) ++ [[AV.int .i64 o]]).length∧((es.take (oo+qs.length) ++ [[AV.int .i64 o]]).drop oo).take (qs ++ [o]).length=(qs ++ [o]).map iv:=by
 have h1:(es.take (oo+qs.length)).length=oo+qs.length:=by rw [List.length_take];omega
 refine ⟨by simp [h1];omega,?_⟩
 rw [List.drop_append_of_le_length (by omega),List.drop_take,Nat.add_sub_cancel_left,q3,List.map_append]
 exact List.take_of_length_le (by simp)
theorem qs_new {es:List (List AV)} {oo:Nat} {qs:List Int} {o:Int} (q3:(es.drop oo).take qs.length=qs.map iv):0+(qs ++ [o]).length≤((es.drop oo).take qs.length ++ [[AV.int .i64 o]]).length∧(((es.drop oo).take qs.length ++ [[AV.int .i64 o]]).drop 0).take (qs ++ [o]).length=(qs ++ [o]).map iv:=by
 rw [q3,List.drop_zero,List.map_append]
 exact ⟨by simp,List.take_of_length_le (by simp)⟩
theorem c56new (n0 l:Nat) (b11 b12 b14:Bid) (o at_ d:Int) (M:List (Int × Int)) (qs:List Int) (g:AH) (hS:Sch n0 l b11 b12 M qs g) (hat:g.at_ b14=some ⟨1,[[.int .i64 at_]]⟩) (hf:fndM M o=none) (hd:fndM M at_=some d) (hdb:0≤d∧d≤1000) (hql:qs.length≤1000)
  (e11:b11.2=11) (e12:b12.2=12) (e14:b14.2=14) (h12:n0≤b12.1) (hn0:n0≤g.clk) :
  ACalls Tryz.prog 56 [.int .i64 o,.ptr b11 0 0,.ptr b14 0 0,.ptr b12 0 0] g (fun _ g'=>Old n0 l g g'∧g'.at_ b14=g.at_ b14∧Sch n0 l b11 b12 (M ++ [(o,d+1)]) (qs ++ [o]) g'):=by
 have hm:=hS.m
 have hlp:=hS.lp
 obtain ⟨v,hv,b,oo,es,rfl,q1,q2,q3,q4,q5,q6⟩:=hS.q
 have hset:=aset_avm o (d+1) M hf
 have hne:∀ (b':Bid) (k:Nat),b'.2=k→(k=11 ∨ k=14)→¬ b'=b12∧¬ b'=b:=fun b' k e1 e2=>⟨fun e=>by rw [e,e12] at e1;omega,fun e=>by rw [e] at e1;omega⟩
 have n1:=hne b11 11 e11 (.inl rfl)
 have n2:=hne b14 14 e14 (.inr rfl)
 have n3:¬ b=b12:=fun e=>by rw [e,e12] at q6;omega
 have n4:¬ b12=b:=fun e=>n3 e.symm
 have hl2:(qs ++ [o]).length=qs.length+1:=by simp
 have hnk:∀ (b':Bid) (m k:Nat),b'.2=m→m ≠ 24→¬ b'=(k,24):=fun b' m k e1 e2 e=>by rw [e] at e1;exact e2 e1.symm
 have n5:=fun k=>hnk b11 11 k e11 (by decide)
 have n6:=fun k=>hnk b12 12 k e12 (by decide)
 have n6b:∀ k:Nat,¬ ((k,24):Nat × Nat)=b12:=fun k e=>n6 k e.symm
 have n7:=fun k=>hnk b14 14 k e14 (by decide)
 have n8:∀ b':Bid,b'.1 < n0→¬ b'=b∧¬ b'=b12∧∀ k,n0≤k→¬ b'=(k,24):=fun b' hb'=>⟨ne_fst hb' q4,ne_fst hb' h12,fun k hk=>ne_fst hb' hk⟩
 refine ACalls.of tab mixed Tryz.call56 Tryz.func56 rfl (fi:=⟨25,[],[23],none,[]⟩) rfl rfl (Nat.le_of_ble_eq_true rfl) (by decide) ?_
 unfold startA
 repeat' (first|refine st_seq_reg rfl (by first|(simp only[go_sem,hm,hat];rfl)|rfl) (by first|(simp only[go_sem,hm,hat];rfl)|rfl) ?_|refine st_reg rfl (by first|(simp only[go_sem,hm,hat];rfl)|rfl) (by first|(simp only[go_sem,hm,hat];rfl)|rfl) ?_|refine st_op ?_|refine st_det rfl (by simp (disch:=omega) only[go_sem,wr_i64,hm,hat];rfl) ?_|(refine st_mapGet (l:=l) (L:=avm M) Tryz.underlying104 Tryz.underlying3 inf3 rfl (by first|(simp only[go_sem,hm];rfl)|rfl) (by first|(simp only[go_sem];rfl)|rfl) (by first|(simp only[go_sem];exact hlp)|exact hlp) ?_;simp only[aget_avm,hf,hd,Option.map_some,Option.map_none,Option.getD_some,Option.getD_none,Option.isSome_some,Option.isSome_none,↓reduceIte,Bool.false_eq_true])|(refine st_mapUp (l:=l) (L:=avm M) Tryz.underlying104 Tryz.underlying3 (by first|(simp only[go_sem,hm];rfl)|rfl) (by first|(simp only[go_sem];rfl)|rfl) rfl rfl (by first|(simp only[go_sem];exact hlp)|exact hlp) ?_;simp only[go_sem,hset])|refine st_condT rfl ?_|refine st_nil ?_)
 all_goals try (exfalso;omega)
 have hql2:((qs.length+([[AV.int .i64 o]]:List (List AV)).length) * 8≤big∧qs.length+([[AV.int .i64 o]]:List (List AV)).length≤big):=by simp only[List.length_cons,List.length_nil,big];omega
 repeat' (first|refine st_op ?_|refine st_det rfl (by simp (disch:=omega) only[go_sem,wr_i64,hv];rfl) ?_|refine st_store (by simp (disch:=omega) only[go_sem,wr_i64,hv];rfl) ?_|(refine st_appO (b:=b) (o:=oo) (n:=qs.length) (z:=1) (m:=8) (el:=3) (k:=⟨1,es⟩) (rows:=[[.int .i64 o]]) (by simp only[go_sem] <;> rfl) rfl rfl (by decide) rfl (by simp only[go_sem] <;> rfl) (by simp only[go_sem];exact q1) q2 hql2 ?_ ?_)|refine st_nil ?_)
 ·repeat' (first|refine st_seq_reg rfl (by first|(simp only[go_sem,hv,n4,n3];rfl)|rfl) (by first|(simp only[go_sem,hv,n4,n3];rfl)|rfl) ?_)
  simp (disch:=omega) only[AEnd,Tryz.results56,aresK,fin,go_sem,implies_true,true_and,and_true,List.reverse_cons,List.reverse_nil]
  refine ⟨⟨fun b' hb'=>by simp only[go_sem,if_neg (n8 b' hb').1,if_neg (n8 b' hb').2.1],fun l' hl'=>by simp only[go_sem];rw [lpSet_ne _ _ hl'];rfl,by simp only[go_sem];omega⟩,by rw [if_neg n2.1,if_neg n2.2],⟨by simp only[go_sem,if_neg n1.1,if_neg n1.2];exact hm,by simp only[go_sem],.slc b 1 oo (qs.length+1),by simp only[go_sem,↓reduceIte],b,oo,_,by rw [hl2],by simp only[go_sem,n3,↓reduceIte] <;> rfl,(qs_in q2 q3).1,(qs_in q2 q3).2,q4,by simp only[go_sem];omega,q6⟩⟩
 ·repeat' (first|refine st_store (by simp (disch:=omega) only[go_sem,wr_i64,hv,n6];rfl) ?_|refine st_nil ?_)
  simp (disch:=omega) only[AEnd,Tryz.results56,aresK,fin,go_sem,implies_true,true_and,and_true,List.reverse_cons,List.reverse_nil]
  refine ⟨⟨fun b' hb'=>by simp only[go_sem,if_neg (n8 b' hb').2.1,if_neg ((n8 b' hb').2.2 _ (by omega:n0≤g.clk+1+1+1))],fun l' hl'=>by simp only[go_sem];rw [lpSet_ne _ _ hl'];rfl,by simp only[go_sem];omega⟩,by rw [if_neg n2.1,if_neg (n7 _)],⟨by simp only[go_sem,if_neg n1.1,if_neg (n5 _)];exact hm,by simp only[go_sem],.slc (g.clk+1+1+1,24) 1 0 (qs.length+1),by simp only[go_sem,↓reduceIte],(g.clk+1+1+1,24),0,_,by rw [hl2],by simp only[go_sem,n6b,↓reduceIte] <;> rfl,(qs_new q3).1,(qs_new q3).2,by show n0≤g.clk+1+1+1;omega,by simp only[go_sem];omega,.inr rfl⟩⟩
theorem c57 (n0 l:Nat) (b11 b12 b18 b19:Bid) (o at_ d bst:Int) (M:List (Int × Int)) (qs:List Int) (g:AH) (hS:Sch n0 l b11 b12 M qs g) (hat:g.at_ b18=some ⟨1,[[.int .i64 at_]]⟩) (hbs:g.at_ b19=some ⟨1,[[.int .i64 bst]]⟩) (hd:fndM M at_=some d) (hdb:0≤d∧d≤1000) :
  ACalls Tryz.prog 57 [.int .i64 o,.ptr b11 0 0,.ptr b18 0 0,.ptr b19 0 0] g (fun _ g'=>∃ n,g.clk≤n∧g'=(g.tick n).put b19 (some ⟨1,[[.int .i64 (if fndM M o=some (d - 1) then min bst o else bst)]]⟩)):=by
 have hm:=hS.m
 have hlp:=hS.lp
 have hput:∀ n,(g.tick n).put b19 (some ⟨1,[[.int .i64 bst]]⟩)=g.tick n:=fun n=>by
  unfold AH.put
  congr 1
  exact upd_self hbs
 cases hf:fndM M o with
 | none =>
  refine ACalls.of tab mixed Tryz.call57 Tryz.func57 rfl (fi:=⟨25,[],[],none,[]⟩) rfl rfl (Nat.le_of_ble_eq_true rfl) (by decide) ?_
  unfold startA
  repeat' (first|refine st_seq_reg rfl (by first|(simp only[go_sem,hm,hat];rfl)|rfl) (by first|(simp only[go_sem,hm,hat];rfl)|rfl) ?_|refine st_op ?_|refine st_det rfl (by simp (disch:=omega) only[go_sem,wr_i64,hm,hat];rfl) ?_|(refine st_mapGet (l:=l) (L:=avm M) Tryz.underlying104 Tryz.underlying3 inf3 rfl (by first|(simp only[go_sem,hm];rfl)|rfl) (by first|(simp only[go_sem];rfl)|rfl) (by first|(simp only[go_sem];exact hlp)|exact hlp) ?_;simp only[aget_avm,hf,hd,Option.map_some,Option.map_none,Option.getD_some,Option.getD_none,Option.isSome_some,Option.isSome_none,↓reduceIte,Bool.false_eq_true])|refine st_gF rfl rfl rfl ?_|refine st_condF rfl ?_|refine st_nil ?_|refine st_skip ?_)
  all_goals try (exfalso;omega)
  simp (disch:=omega) only[AEnd,Tryz.results57,aresK,fin,go_sem,implies_true,true_and,and_true,List.reverse_cons,List.reverse_nil]
  exact ⟨_,(by omega:g.clk≤g.clk+1+1),by rw [if_neg (by simp),hput]⟩
 | some v =>
  have hE:(some v=some (d - 1))=(v=d - 1):=by simp
  simp only[hE]
  refine ACalls.of tab mixed Tryz.call57 Tryz.func57 rfl (fi:=⟨25,[],[],none,[]⟩) rfl rfl (Nat.le_of_ble_eq_true rfl) (by decide) ?_
  unfold startA
  repeat' (first|refine st_seq_reg rfl (by first|(simp only[go_sem,hm,hat,hbs];rfl)|rfl) (by first|(simp only[go_sem,hm,hat,hbs];rfl)|rfl) ?_|refine st_reg rfl (by first|(simp only[go_sem,hm,hat,hbs];rfl)|rfl) (by first|(simp only[go_sem,hm,hat,hbs];rfl)|rfl) ?_|refine st_op ?_|refine st_det rfl (by simp (disch:=omega) only[go_sem,wr_i64,hm,hat,hbs];rfl) ?_|refine st_store (by simp (disch:=omega) only[go_sem,wr_i64,hm,hat,hbs];rfl) ?_|(refine st_mapGet (l:=l) (L:=avm M) Tryz.underlying104 Tryz.underlying3 inf3 rfl (by first|(simp only[go_sem,hm];rfl)|rfl) (by first|(simp only[go_sem];rfl)|rfl) (by first|(simp only[go_sem];exact hlp)|exact hlp) ?_;simp only[aget_avm,hf,hd,Option.map_some,Option.map_none,Option.getD_some,Option.getD_none,Option.isSome_some,Option.isSome_none,↓reduceIte,Bool.false_eq_true])|refine st_gT rfl rfl rfl ?_|(refine st_condS rfl ?_ ?_ <;> intro hg <;> (try simp only[dcT,dcF,bnT,bnF] at hg))|refine st_nil ?_|refine st_skip ?_)
  all_goals try (exfalso;omega)
  ·simp (disch:=omega) only[AEnd,Tryz.results57,aresK,fin,go_sem,implies_true,true_and,and_true,List.reverse_cons,List.reverse_nil]
   exact ⟨_,(by omega:g.clk≤g.clk+1+1+1),rfl⟩
  ·simp (disch:=omega) only[AEnd,Tryz.results57,aresK,fin,go_sem,implies_true,true_and,and_true,List.reverse_cons,List.reverse_nil]
   exact ⟨_,(by omega:g.clk≤g.clk+1+1),(hput _).symm⟩
end Go.Proofs.YtoafigpikgigaaaGreatDoor

namespace Go.Proofs.YtoafigpikgigaaaGreatDoor
open Go.Av
attribute [local irreducible] thenA blockA awp awpOps awpD awp1
attribute [local go_sem_proc] Nat.reduceAdd Nat.reduceMul Nat.reduceEqDiff Nat.reduceBEq Nat.reduceLeDiff
attribute [local go_sem_proc ↓] reduceIte
attribute [local go_sem] if_yes if_no
set_option maxHeartbeats 8000000
set_option maxRecDepth 20000
theorem Sch.old {n0 l:Nat} {b11 b12:Bid} {M:List (Int × Int)} {qs:List Int} {g g':AH} {N:Nat} (h:Sch n0 l b11 b12 M qs g) (h1:b11.1 < N) (h2:b12.1 < N) (h3:g.clk≤N) (hat:∀ b:Bid,b.1 < N→g'.at_ b=g.at_ b) (hlp:g'.lp l=g.lp l) (hc:g.clk≤g'.clk):Sch n0 l b11 b12 M qs g':=by
 obtain ⟨v,q1,q2⟩:=h.q
 exact ⟨by rw [hat _ h1];exact h.m,by rw [hlp];exact h.lp,v,by rw [hat _ h2];exact q1,q2.same (fun b _ hb=>hat b (by omega)) hc⟩
theorem c53a (t:Tw) (c:List Int) (to:Int) (hT:TwOk t) (hcl:c.length≤1000000) (hto:0≤to∧to < t.rooms.length) (n0 l:Nat) (b11 b12 b14:Bid) (M:List (Int × Int)) (k:Nat) (hB:Bfs t c to M k) (hk:k < M.length) (h:AH) (hS:Sch n0 l b11 b12 M ((keysM M).drop (k+1)) h) (hat:h.at_ b14=some ⟨1,[[.int .i64 (ky M k)]]⟩)
  (e11:b11.2=11) (e12:b12.2=12) (e14:b14.2=14) (h12:n0≤b12.1) (hn0:n0≤h.clk) :
  ACalls Tryz.prog 53 [.int .i64 (ky M k),.fn (.func 56) [] [.ptr b11 0 0,.ptr b14 0 0,.ptr b12 0 0],.iptr t.cells 0,.iptr [.lst 1 (c.map iv)] 0] h
   (fun _ h'=>Old n0 l h h'∧∃ M',Bfs t c to M' (k+1)∧Sch n0 l b11 b12 M' ((keysM M').drop (k+1)) h'):=by
 have hkb:=(hB.ok k hk).1
 let I:Nat→AH→Prop:=fun i g=>Old n0 l h g∧g.at_ b14=some ⟨1,[[.int .i64 (ky M k)]]⟩∧∃ M',Bfs t c to M' k∧k < M'.length∧ky M' k=ky M k∧Sch n0 l b11 b12 M' ((keysM M').drop (k+1)) g∧∀ j,j < i→0≤oth (sx t.sts j) (ky M k)→clB c j=false→oth (sx t.sts j) (ky M k) ∈ keysM M'
 refine (c53 t c (ky M k) 56 [.ptr b11 0 0,.ptr b14 0 0,.ptr b12 0 0] hT hcl rfl I ?_ ?_ ?_ h ?_).mono ?_
 ·rintro i g n ⟨o1,o2,M',m1,m2,m3,m4,m5⟩ hn
  exact ⟨o1.trans (Old.tick hn),o2,M',m1,m2,m3,m4.tick hn,m5⟩
 ·rintro i g hi hno ⟨o1,o2,M',m1,m2,m3,m4,m5⟩
  refine ⟨o1,o2,M',m1,m2,m3,m4,fun j hj q1 q2=>?_⟩
  by_cases e:j=i
  ·subst e;exact absurd ⟨q1,q2⟩ hno
  ·exact m5 j (by omega) q1 q2
 ·rintro i g hi ho hcb ⟨o1,o2,M',m1,m2,m3,m4,m5⟩
  obtain ⟨_,d,hv,hD⟩:=m1.ok k m2
  have hdR:=dist_lt hT hto (by rw [m3];exact hkb.1) hD
  have hrn:=hT.rn
  have hfd:fndM M' (ky M k)=some (d:Int):=by rw [← m3,fndM_at m1.nd m2,hv]
  cases hf:fndM M' (oth (sx t.sts i) (ky M k)) with
  | some v =>
   refine (c56old n0 l b11 b12 b14 _ (ky M k) d M' _ g m4 o2 hf).mono ?_
   rintro _ g' ⟨p1,p2,p3⟩
   refine ⟨o1.trans p1,by rw [p2];exact o2,M',m1,m2,m3,p3,fun j hj q1 q2=>?_⟩
   by_cases e:j=i
   ·subst e
    obtain ⟨x,hx,e1,_⟩:=fndM_some hf
    rw [← e1];exact ky_mem hx
   ·exact m5 j (by omega) q1 q2
  | none =>
   have hlen:=m1.len
   have hql:((keysM M').drop (k+1)).length≤1000:=by rw [List.length_drop];simp [keysM];omega
   refine (c56new n0 l b11 b12 b14 _ (ky M k) d M' _ g m4 o2 hf hfd ⟨by omega,by omega⟩ hql e11 e12 e14 h12 (by have:=o1.clk;omega)).mono ?_
   rintro _ g' ⟨p1,p2,p3⟩
   have hadj:adjB t c (ky M' k) (oth (sx t.sts i) (ky M k))=true:=adjB_iff.2 ⟨i,hi,hcb,by rw [m3]⟩
   have hB':=m1.push hT hto m2 ho hadj (fndM_none.1 hf)
   rw [hv] at hB'
   have hky:ky (M' ++ [(oth (sx t.sts i) (ky M k),(d:Int)+1)]) k=ky M' k:=by
    unfold ky;rw [List.getD_eq_getElem?_getD,List.getElem?_append_left m2,← List.getD_eq_getElem?_getD]
   have hkeys:keysM (M' ++ [(oth (sx t.sts i) (ky M k),(d:Int)+1)])=keysM M' ++ [oth (sx t.sts i) (ky M k)]:=by simp [keysM]
   refine ⟨o1.trans p1,by rw [p2];exact o2,_,hB',by simp;omega,hky.trans m3,?_,fun j hj q1 q2=>?_⟩
   ·rw [hkeys,List.drop_append_of_le_length (by simp [keysM];omega)];exact p3
   ·rw [hkeys]
    by_cases e:j=i
    ·subst e;simp
    ·exact List.mem_append_left _ (m5 j (by omega) q1 q2)
 ·exact ⟨Old.refl _ _ _,hat,M,hB,hk,rfl,hS,fun j hj=>absurd hj (Nat.not_lt_zero _)⟩
 ·rintro _ g ⟨o1,o2,M',m1,m2,m3,m4,m5⟩
  refine ⟨o1,M',m1.next hT hto m2 fun q hq ha=>?_,m4⟩
  obtain ⟨i,hi,h1,h2⟩:=adjB_iff.1 ha
  rw [m3] at h2
  have:=m5 i hi (by omega) h1
  rw [h2] at this;exact this
theorem c53b (t:Tw) (c:List Int) (to frm at_:Int) (hT:TwOk t) (hcl:c.length≤1000000) (hto:0≤to∧to < t.rooms.length) (n0 l:Nat) (b11 b12 b18 b19:Bid) (M:List (Int × Int)) (qs:List Int) (D d:Nat) (hF:SFin t c to frm M) (hD:isD t c to D frm) (hdD:d+1≤D) (hD12:D≤12) (hd:fndM M at_=some ((d+1:Nat):Int)) (h:AH) (hS:Sch n0 l b11 b12 M qs h)
  (hat:h.at_ b18=some ⟨1,[[.int .i64 at_]]⟩) (hbs:h.at_ b19=some ⟨1,[[.int .i64 (t.rooms.length:Nat)]]⟩) (e11:b11.2=11) (e12:b12.2=12) (e18:b18.2=18) (e19:b19.2=19) :
  ACalls Tryz.prog 53 [.int .i64 at_,.fn (.func 57) [] [.ptr b11 0 0,.ptr b18 0 0,.ptr b19 0 0],.iptr t.cells 0,.iptr [.lst 1 (c.map iv)] 0] h
   (fun _ h'=>∃ n,h.clk≤n∧h'=(h.tick n).put b19 (some ⟨1,[[.int .i64 (nxN t c to d at_ t.sts.length)]]⟩)):=by
 have n1:¬ b11=b19:=fun e=>by rw [e,e19] at e11;cases e11
 have n2:¬ b12=b19:=fun e=>by rw [e,e19] at e12;cases e12
 have n3:¬ b18=b19:=fun e=>by rw [e,e19] at e18;cases e18
 have hSch:∀ (n:Nat) x,h.clk≤n→Sch n0 l b11 b12 M qs ((h.tick n).put b19 x):=fun n x hn=>by
  obtain ⟨v,q1,q2⟩:=hS.q
  exact ⟨by rw [put_ne _ _ n1];exact hS.m,hS.lp,v,by rw [put_ne _ _ n2];exact q1,q2.same (fun b hb _=>by rw [put_ne _ _ (fun e=>by rw [e,e19] at hb;omega)];rfl) hn⟩
 let I:Nat→AH→Prop:=fun i g=>∃ n,h.clk≤n∧g=(h.tick n).put b19 (some ⟨1,[[.int .i64 (nxN t c to d at_ i)]]⟩)
 refine c53 t c at_ 57 [.ptr b11 0 0,.ptr b18 0 0,.ptr b19 0 0] hT hcl rfl I ?_ ?_ ?_ h ?_
 ·rintro i g m ⟨n,hn,rfl⟩ hm
  exact ⟨m,Nat.le_trans hn hm,rfl⟩
 ·rintro i g hi hno ⟨n,hn,rfl⟩
  refine ⟨n,hn,?_⟩
  have:nxN t c to d at_ (i+1)=nxN t c to d at_ i:=by
   show (if _ then _ else _)=_;rw [if_neg (fun e=>hno ⟨e.2.1,e.1⟩)]
  rw [this]
 ·rintro i g hi ho hcb ⟨n,hn,rfl⟩
  refine (c57 n0 l b11 b12 b18 b19 _ at_ ((d+1:Nat):Int) (nxN t c to d at_ i) M qs _ (hSch n _ hn) (by rw [put_ne _ _ n3];exact hat) (by simp only[go_sem]) hd (by omega)).mono ?_
  rintro _ g' ⟨m,hm,rfl⟩
  refine ⟨m,Nat.le_trans hn hm,?_⟩
  have e1:(((d+1:Nat):Int) - 1)=(d:Int):=by omega
  have e2:nxN t c to d at_ (i+1)=if fndM M (oth (sx t.sts i) at_)=some (d:Int) then min (nxN t c to d at_ i) (oth (sx t.sts i) at_) else nxN t c to d at_ i:=by
   show (if _ then _ else _)=_
   by_cases hh:fndM M (oth (sx t.sts i) at_)=some (d:Int)
   ·rw [if_pos hh,if_pos]
    obtain ⟨n',e3,h4⟩:=hF.ok _ _ hh
    have:n'=d:=by omega
    subst this
    exact ⟨hcb,ho,(dst_iff hT hto ho).2 h4⟩
   ·rw [if_neg hh,if_neg]
    rintro ⟨_,_,h5⟩
    exact hh (hF.full D hD _ ho d (by omega) ((dst_iff hT hto ho).1 h5))
  rw [e1,← e2]
  simp only[go_sem]
 ·refine ⟨h.clk,Nat.le_refl _,?_⟩
  show h=(h.tick h.clk).put b19 (some ⟨1,[[.int .i64 (t.rooms.length:Nat)]]⟩)
  unfold AH.put
  rw [show (h.tick h.clk).at_=h.at_ from rfl,upd_self hbs]
  rfl
end Go.Proofs.YtoafigpikgigaaaGreatDoor
