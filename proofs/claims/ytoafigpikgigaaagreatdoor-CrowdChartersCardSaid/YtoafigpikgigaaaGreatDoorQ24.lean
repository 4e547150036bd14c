/- Contracts of functions that the claim reaches: what each call gives, told in our own logic. Conditions: those of each theorem. -/
import Derived.Test.YtoafigpikgigaaaGreatDoorQ12
import Derived.Test.YtoafigpikgigaaaGreatDoorQ9
open List (length_map)
set_option linter.all false
set_option linter.unusedSimpArgs false
set_option linter.unusedVariables false
namespace Go.Proofs.YtoafigpikgigaaaGreatDoor
open Go.Av
attribute [local irreducible] thenA blockA awp awpOps awpD awp1
attribute [local go_sem_proc] Nat.reduceAdd Nat.reduceMul Nat.reduceEqDiff Nat.reduceBEq Nat.reduceLeDiff
attribute [local go_sem_proc ↓] reduceIte
attribute [local go_sem] if_yes if_no
set_option maxHeartbeats 8000000
set_option maxRecDepth 20000
def allN (t:Tw) (s:Nat→Int) (g:Gp) (q step:Int) (n:Nat):Bool:=(List.range n).all fun i=>decide (plc t s g (g.alo+(i:Nat)) step=q)
def someN (t:Tw) (s:Nat→Int) (g:Gp) (q step:Int) (n:Nat):Bool:=(List.range n).any fun i=>decide (plc t s g (g.alo+(i:Nat)) step=q)
theorem allN_next (t:Tw) (s:Nat→Int) (g:Gp) (q step:Int) (n:Nat):allN t s g q step (n+1)=(allN t s g q step n && decide (plc t s g (g.alo+(n:Nat)) step=q)):=by
 unfold allN;rw [List.range_succ,List.all_append];simp
theorem someN_next (t:Tw) (s:Nat→Int) (g:Gp) (q step:Int) (n:Nat):someN t s g q step (n+1)=(someN t s g q step n || decide (plc t s g (g.alo+(n:Nat)) step=q)):=by
 unfold someN;rw [List.range_succ,List.any_append];simp
theorem ne_snd {a b c d:Nat} (h:b ≠ d):¬ ((a,b):Nat × Nat)=(c,d):=fun e=>h (congrArg Prod.snd e)
theorem ne_fst {b b':Nat × Nat} {n:Nat} (h:b.1 < n) (h':n≤b'.1):¬ b=b':=fun e=>by rw [e] at h;omega
theorem c66 (t:Tw) (f:Nat→Int) (g:Gp) (step q lo hi:Int) (hT:TwOk t) (hG:GpOk t g) (hs:0≤step∧step≤96) (hlo:0≤lo∧lo≤100000000) (hhi:0≤hi∧hi≤100000000) :
  Pure Tryz.prog 66 ([.agg [.int .i64 lo,.int .i64 hi],.agg g.row] ++ [.iptr (stR f) 0,.iptr t.cells 0,.iptr [.int .i64 step] 0,.iptr [.int .i64 q] 0]) (fun v=>v=.agg [.int .i64 (if allB t f g q step=true then lo+g.lo else lo),.int .i64 (if someB t f g q step=true then hi+g.hi else hi)]):=by
 have hsz:=hG.size
 have k87:=c67 t f g step
 have eA:allB t f g q step=allN t f g q step (plN g):=rfl
 have eS:someB t f g q step=someN t f g q step (plN g):=rfl
 rw [eA,eS]
 intro h
 refine ACalls.forget (ACalls.of tab mixed Tryz.call66 Tryz.func66 rfl (fi:=⟨47,[6,8],[7],none,[(4,[0,1,3,3,15,31,0,67,195,195,963,1987,255,8191],[(0,false),(1,false),(2,false),(3,true),(4,false),(5,false),(6,false),(7,false),(8,false),(9,true),(10,false),(11,false),(12,true),(13,true)])]⟩) rfl rfl (Nat.le_of_ble_eq_true rfl) (by decide) ?_)
 unfold startA
 unfold Tw.cells
 simp only[go_sem]
 repeat' (first|refine st_seq_reg rfl (by first|(simp only[go_sem];rfl)|rfl) (by first|(simp only[go_sem];rfl)|rfl) ?_|refine st_op ?_|refine st_det rfl (by simp (disch:=omega) only[go_sem,wr_i64];rfl) ?_|refine st_loc rfl (by simp (disch:=omega) only[go_sem,wr_i64];rfl) ?_|refine st_heap rfl (by simp (disch:=omega) only[go_sem,wr_i64];rfl) ?_|refine st_store (by simp (disch:=omega) only[go_sem,wr_i64];rfl) ?_|(refine st_pureE (by first|(simp (disch:=omega) only[go_sem];rfl)|rfl) rfl (k87) (by first|(simp only[go_sem];rfl)|rfl) (by intro n;first|(simp (disch:=omega) only[go_sem];rfl)|rfl) ?_;intro n hn)|refine st_nil ?_|refine st_seq ?_|refine st_block ?_)
 refine st_rangeFunc rfl (by simp only[go_sem];rfl) (fun l D R hR hlp=>?_)
 simp only[go_sem] at hlp
 let I:Nat→AH→Prop:=fun i g'=>g'.lp l=some R∧h.clk+2≤g'.clk∧(∀ b':Bid,b'.1 < h.clk→g'.at_ b'=h.at_ b')∧(∀ l',l' ≠ l→g'.lp l'=h.lp l')∧g'.at_ (h.clk+1,9)=some ⟨1,[[.bool (allN t f g q step i)]]⟩∧g'.at_ (h.clk+1,10)=some ⟨1,[[.bool (someN t f g q step i)]]⟩
 have hn9:∀ b':Nat × Nat,b'.1 < h.clk→¬ b'=(h.clk+1,9):=fun b' hb'=>ne_fst hb' (by show h.clk≤h.clk+1;omega)
 have hn10:∀ b':Nat × Nat,b'.1 < h.clk→¬ b'=(h.clk+1,10):=fun b' hb'=>ne_fst hb' (by show h.clk≤h.clk+1;omega)
 have h910:¬ ((h.clk+1,9):Nat × Nat)=(h.clk+1,10):=ne_snd (by decide)
 have h109:¬ ((h.clk+1,10):Nat × Nat)=(h.clk+1,9):=ne_snd (by decide)
 refine (c81 t f g step l hT hG hs I ?_ ?_ _ ?_).mono ?_
 ·rintro i g' m ⟨h1,h2,h3,h4,h5,h6⟩ hm
  exact ⟨h1,by show h.clk+2≤m;omega,h3,h4,h5,h6⟩
 ·rintro i g' hi ⟨h1,h2,h3,h4,h5,h6⟩
  refine AYields.canonD tab mixed [] [] [(4,[0,1,3,3,15,31,0,67,195,195,963,1987,255,8191],[(0,false),(1,false),(2,false),(3,true),(4,false),(5,false),(6,false),(7,false),(8,false),(9,true),(10,false),(11,false),(12,true),(13,true)])] hR h1 rfl (by intro p hp;simp at hp;rcases hp with rfl;decide) [(17,.int .i64 (plc t f g (g.alo+(i:Nat)) step)),(5,.iptr [.int .i64 q] 0),(9,.ptr (h.clk+1,9) 0 0),(10,.ptr (h.clk+1,10) 0 0)] ⟨rfl,rfl,rfl,rfl,trivial⟩ (by decide) (by decide) ?_
  simp only[go_sem]
  repeat' (first|refine st_reg rfl (by first|(simp only[go_sem];rfl)|rfl) (by first|(simp only[go_sem];rfl)|rfl) ?_|refine st_op ?_|refine st_det rfl (by simp (disch:=omega) only[go_sem,wr_i64];rfl) ?_|refine st_nil ?_|refine st_tN ?_)
  refine ⟨h1,?_⟩
  dsimp only
  have n1:=allN_next t f g q step i
  have n2:=someN_next t f g q step i
  generalize allN t f g q step i=A at *
  generalize someN t f g q step i=S at *
  generalize plc t f g (g.alo+(i:Nat)) step=p at *
  repeat' (first|refine st_draw rfl (by first|(simp only[go_sem,h5,h6,h910,h109];rfl)|rfl) (by first|(simp only[go_sem,h5,h6,h910,h109];rfl)|rfl) ?_|refine st_det rfl (by simp (disch:=omega) only[go_sem,wr_i64,h5,h6,h910,h109];rfl) ?_|refine st_dop rfl ?_|refine st_store (by simp (disch:=omega) only[go_sem,wr_i64,h5,h6,h910,h109];rfl) ?_|refine st_dgT rfl rfl rfl rfl ?_|refine st_dgF rfl rfl rfl ?_|(refine st_dgS rfl rfl ?_ ?_ <;> intro hg <;> (try simp only[dcT,dcF,bnT,bnF] at hg))|refine st_dnil ?_|refine st_block ?_|refine st_bN ?_)
  all_goals
   refine ⟨by simp only[go_sem],rfl,lpSet_same _ _ _,by simp only[go_sem];omega,fun b' hb'=>?_,fun l' hl'=>?_,?_,?_⟩
   ·simp only[go_sem,if_neg (hn9 b' hb'),if_neg (hn10 b' hb')];exact h3 b' hb'
   ·rw [lpSet_ne _ _ hl'];simp only[go_sem];rw [lpSet_ne _ _ hl'];exact h4 l' hl'
   ·rw [n1];simp only[go_sem,h910,h109,↓reduceIte];first|rfl|simp [*]
   ·rw [n2];simp only[go_sem,h910,h109,↓reduceIte];first|rfl|simp [*]
 ·exact ⟨lpSet_same _ _ _,by simp only[go_sem];omega,fun b' hb'=>by simp only[go_sem,if_neg (hn9 b' hb'),if_neg (hn10 b' hb')],fun l' hl'=>by rw [lpSet_ne _ _ hl'];rfl,by simp only[go_sem,h910,h109,↓reduceIte];rfl,by simp only[go_sem,h910,h109,↓reduceIte];rfl⟩
 ·rintro v h' ⟨h1,h2,h3,h4,h5,h6⟩
  refine .inl ⟨h1,st_bN (st_tN ?_)⟩
  generalize allN t f g q step (plN g)=A at *
  generalize someN t f g q step (plN g)=S at *
  have hlp2:(h'.lpSet l none).lp=h.lp:=by
   funext l'
   by_cases e:l'=l
   ·rw [e,lpSet_same,hlp]
   ·rw [lpSet_ne _ _ e];exact h4 l' e
  repeat' (first|refine st_seq_reg rfl (by first|(simp only[go_sem,h5,h6];rfl)|rfl) (by first|(simp only[go_sem,h5,h6];rfl)|rfl) ?_|refine st_reg rfl (by first|(simp only[go_sem,h5,h6];rfl)|rfl) (by first|(simp only[go_sem,h5,h6];rfl)|rfl) ?_|refine st_op ?_|refine st_det rfl (by simp (disch:=omega) only[go_sem,wr_i64,h5,h6];rfl) ?_|refine st_store (by simp (disch:=omega) only[go_sem,wr_i64,h5,h6];rfl) ?_|(refine st_condS rfl ?_ ?_ <;> intro hg <;> (try simp only[dcT,dcF,bnT,bnF] at hg))|refine st_nil ?_|refine st_tN ?_|refine st_seq ?_|refine st_skip ?_|refine st_ret ?_)
  all_goals
   simp (disch:=omega) only[AEnd,Tryz.results66,aresK,fin,go_sem,implies_true,true_and,and_true,List.reverse_cons,List.reverse_nil]
   first|exact ⟨h3,hlp2⟩|exact ⟨h3,hlp2,by simp [*]⟩
theorem sumF_bd0 {F:Nat→Int} {n:Nat} {B:Int} (hb:∀ i,i < n→0≤F i∧F i≤B):∀ i,i≤n→0≤sumF F i∧sumF F i≤i * B
 | 0,_=>by simp [sumF]
 | i+1,hi=>by
  have ih:=sumF_bd0 hb i (by omega)
  have h1:=hb i (by omega)
  have e:sumF F (i+1)=sumF F i+F i:=rfl
  have e2:((i+1:Nat):Int) * B=i * B+B:=by rw [Int.natCast_add,Int.add_mul];simp
  rw [e,e2]
  omega
theorem hiF_bd {t:Tw} (hT:TwOk t) (s:Nat→Int) (q step:Int):∀ i,i < t.gs.length→0≤hiF t s q step i∧hiF t s q step i≤1000000:=fun i hi=>by
 have:=(hT.g i hi).size
 unfold hiF;split <;> omega
theorem loF_bd {t:Tw} (hT:TwOk t) (s:Nat→Int) (q step:Int):∀ i,i < t.gs.length→0≤loF t s q step i∧loF t s q step i≤1000000:=fun i hi=>by
 have:=(hT.g i hi).size
 unfold loF;split <;> omega
theorem c65 (t:Tw) (f:Nat→Int) (step q:Int) (hT:TwOk t) (hs:0≤step∧step≤96) :
  Pure Tryz.prog 65 [.lst 7 (t.gs.map Gp.row),.agg [.int .i64 0,.int .i64 0],.fn (.func 66) [] [.iptr (stR f) 0,.iptr t.cells 0,.iptr [.int .i64 step] 0,.iptr [.int .i64 q] 0]] (fun v=>v=.agg [.int .i64 (ldLo t f q step),.int .i64 (ldHi t f q step)]):=by
 have hgn:=hT.gn
 have bH:=sumF_bd0 (hiF_bd hT f q step)
 have bL:=sumF_bd0 (loF_bd hT f q step)
 intro h
 refine ACalls.forget (ACalls.of tab mixed Tryz.call65 Tryz.func65 rfl (fi:=⟨21,[4,6,8],[],none,[]⟩) rfl rfl (Nat.le_of_ble_eq_true rfl) (by decide) ?_)
 unfold startA
 repeat' (first|refine st_seq_reg rfl (by first|(simp only[go_sem,Lm];rfl)|rfl) (by first|(simp only[go_sem,Lm];rfl)|rfl) ?_|refine st_op ?_|refine st_det rfl (by simp (disch:=omega) only[go_sem,wr_i64,Lm];rfl) ?_|refine st_loc rfl (by simp (disch:=omega) only[go_sem,wr_i64,Lm];rfl) ?_|refine st_nil ?_|refine st_seq ?_|refine st_block ?_)
 refine st_loopC (α:=Nat) tab mixed [4] [_] (by repeat (first|exact trivial|refine ⟨rfl,?_⟩)) [6] [_] (by repeat (first|exact trivial|refine ⟨rfl,?_⟩)) (fun i=>[(11,.int .i64 (i:Nat))]) [(2,_),(4,_),(6,_),(9,_),(10,_)] (fun i=>[[.int .i64 (sumF (loF t f q step) i),.int .i64 (sumF (hiF t f q step) i)]]) [_] (fun i=>i≤t.gs.length) (fun i=>t.gs.length - i) (by decide) 0 (Nat.zero_le _) (by (try simp only[go_sem]);repeat' (first|exact trivial|refine And.intro ?_ ?_|rfl|(simp (disch:=omega) only[go_sem,if_yes,if_no,if_no];rfl)|(simp (disch:=omega) only[go_sem,if_yes,if_no,if_no]))) (by (try simp only[go_sem]);repeat' (first|exact trivial|refine And.intro ?_ ?_|rfl|(simp (disch:=omega) only[go_sem,if_yes,if_no,if_no];rfl)|(simp (disch:=omega) only[go_sem,if_yes,if_no,if_no]))) (by first|(simp only[go_sem];rfl)|rfl) (by intro n;simp only[go_sem];rfl) ?_
 rintro i c i1 hc
 simp only[go_sem]
 by_cases hi:i < t.gs.length
 case pos =>
  have b1:=bH i i1
  have b2:=bL i i1
  have e1:sumF (loF t f q step) (i+1)=if allB t f (gp t.gs i) q step=true then sumF (loF t f q step) i+(gp t.gs i).lo else sumF (loF t f q step) i:=by
   show _+(if _ then _ else _)=_;split <;> simp
  have e2:sumF (hiF t f q step) (i+1)=if someB t f (gp t.gs i) q step=true then sumF (hiF t f q step) i+(gp t.gs i).hi else sumF (hiF t f q step) i:=by
   show _+(if _ then _ else _)=_;split <;> simp
  have k:=c66 t f (gp t.gs i) step q (sumF (loF t f q step) i) (sumF (hiF t f q step) i) hT (hT.g i hi) hs (by omega) (by omega)
  rw [← e1,← e2] at k
  repeat' (first|refine st_seq_reg rfl (by first|(simp only[go_sem,Lm];rfl)|rfl) (by first|(simp only[go_sem,Lm];rfl)|rfl) ?_|refine st_reg rfl (by first|(simp only[go_sem,Lm];rfl)|rfl) (by first|(simp only[go_sem,Lm];rfl)|rfl) ?_|refine st_op ?_|refine st_det rfl (by simp (disch:=omega) only[go_sem,wr_i64,Lm];rfl) ?_|refine st_loc rfl (by simp (disch:=omega) only[go_sem,wr_i64,Lm];rfl) ?_|refine st_store (by simp (disch:=omega) only[go_sem,wr_i64,Lm];rfl) ?_|(refine st_pureV (by first|(simp only[go_sem,Lm];rfl)|rfl) (by first|(simp (disch:=omega) only[go_sem,Lm];rfl)|rfl) rfl (k) (by first|(simp only[go_sem,Lm];rfl)|rfl) (by intro n;first|(simp (disch:=omega) only[go_sem];rfl)|rfl) ?_;intro v n hv hn;subst hv)|(refine st_condS rfl ?_ ?_ <;> intro hg <;> (try simp only[dcT,dcF,bnT,bnF] at hg))|refine st_nil ?_|refine st_tN ?_|refine st_seq ?_|refine st_block ?_|refine st_skip ?_|refine st_exit ?_|refine st_ret ?_|refine st_tE ?_|refine st_bN ?_|refine st_bH ?_)
  all_goals try (exfalso;omega)
  refine ⟨i+1,by show i+1≤_;omega,by show t.gs.length - (i+1) < t.gs.length - i;omega,(by repeat' (first|exact trivial|refine And.intro ?_ ?_|rfl|(simp (disch:=omega) only[go_sem,if_yes,if_no,if_no];rfl)|(simp (disch:=omega) only[go_sem,if_yes,if_no,if_no]))),(by repeat' (first|exact trivial|refine And.intro ?_ ?_|rfl|(simp (disch:=omega) only[go_sem,if_yes,if_no,if_no];rfl)|(simp (disch:=omega) only[go_sem,if_yes,if_no,if_no]))),rfl,(by first|exact HOld.of _ (by omega)|exact HOld.put _ _ _ (by omega))⟩
 obtain rfl:i=t.gs.length:=by omega
 repeat' (first|refine st_seq_reg rfl (by first|(simp only[go_sem,Lm];rfl)|rfl) (by first|(simp only[go_sem,Lm];rfl)|rfl) ?_|refine st_reg rfl (by first|(simp only[go_sem,Lm];rfl)|rfl) (by first|(simp only[go_sem,Lm];rfl)|rfl) ?_|refine st_op ?_|refine st_det rfl (by simp (disch:=omega) only[go_sem,wr_i64,Lm];rfl) ?_|refine st_loc rfl (by simp (disch:=omega) only[go_sem,wr_i64,Lm];rfl) ?_|refine st_store (by simp (disch:=omega) only[go_sem,wr_i64,Lm];rfl) ?_|(refine st_condS rfl ?_ ?_ <;> intro hg <;> (try simp only[dcT,dcF,bnT,bnF] at hg))|refine st_nil ?_|refine st_tN ?_|refine st_seq ?_|refine st_block ?_|refine st_skip ?_|refine st_exit ?_|refine st_ret ?_|refine st_tE ?_|refine st_bH ?_)
 all_goals try (exfalso;omega)
 simp (disch:=omega) only[AEnd,Tryz.results65,aresK,fin,go_sem,implies_true,true_and,and_true,List.reverse_cons,List.reverse_nil]
 rfl
theorem c48 (t:Tw) (f:Nat→Int) (q step:Int) (hT:TwOk t) (hs:0≤step∧step≤96):Pure Tryz.prog 48 [.agg (stR f),t.av,.int .i64 q,.int .i64 step] (fun v=>v=.agg [.int .i64 (ldLo t f q step),.int .i64 (ldHi t f q step)]):=by
 have k:=c65 t f step q hT hs
 unfold Tw.cells at k
 intro h
 refine ACalls.forget (ACalls.of tab mixed Tryz.call48 Tryz.func48 rfl (fi:=⟨14,[8],[4,5,6,7],none,[]⟩) rfl rfl (Nat.le_of_ble_eq_true rfl) (by decide) ?_)
 unfold startA
 simp only[go_sem]
 repeat' (first|refine st_seq_reg rfl (by first|(simp only[go_sem];rfl)|rfl) (by first|(simp only[go_sem];rfl)|rfl) ?_|refine st_op ?_|refine st_det rfl (by simp (disch:=omega) only[go_sem,wr_i64];rfl) ?_|refine st_loc rfl (by simp (disch:=omega) only[go_sem,wr_i64];rfl) ?_|refine st_store (by simp (disch:=omega) only[go_sem,wr_i64];rfl) ?_|(refine st_pureE (by first|(simp (disch:=omega) only[go_sem];rfl)|rfl) rfl (k) (by first|(simp only[go_sem];rfl)|rfl) (by intro n;first|(simp (disch:=omega) only[go_sem];rfl)|rfl) ?_;intro n hn)|refine st_nil ?_|refine st_ret ?_)
 simp (disch:=omega) only[AEnd,Tryz.results48,aresK,fin,go_sem,implies_true,true_and,and_true,List.reverse_cons,List.reverse_nil]
end Go.Proofs.YtoafigpikgigaaaGreatDoor

namespace Go.Proofs.YtoafigpikgigaaaGreatDoor
open Go.Av
attribute [local irreducible] thenA blockA awp awpOps awpD awp1
attribute [local go_sem_proc] Nat.reduceAdd Nat.reduceMul Nat.reduceEqDiff Nat.reduceBEq Nat.reduceLeDiff
attribute [local go_sem_proc ↓] reduceIte
attribute [local go_sem] if_yes if_no
set_option maxHeartbeats 8000000
set_option maxRecDepth 20000
def ldR (t:Tw) (s:Nat→Int) (step:Int) (i:Nat):List (List AV):=(List.range i).map fun (q:Nat)=>[.int .i64 (ldLo t s (q:Nat) step),.int .i64 (ldHi t s (q:Nat) step)]
theorem ldR_len (t:Tw) (s:Nat→Int) (step:Int) (i:Nat):(ldR t s step i).length=i:=by simp [ldR]
theorem ldR_next (t:Tw) (s:Nat→Int) (step:Int) (i:Nat):ldR t s step (i+1)=ldR t s step i ++ [[.int .i64 (ldLo t s (i:Nat) step),.int .i64 (ldHi t s (i:Nat) step)]]:=by
 unfold ldR;rw [List.range_succ,List.map_append];rfl
def ldsR (t:Tw) (c:List Int) (step:Int):AV :=
 if cloE t c ≠ 0 then .tup [.lst 2 [],.int .i64 (cloE t c)] else if ¬ (0≤step∧step≤t.steps) then .tup [.lst 2 [],.int .i64 2] else .tup [.lst 2 (ldR t (cls c) step t.rooms.length),.int .i64 0]
structure AlS where
 i:Nat
 v:AV
 g:AH
theorem cloOk {t:Tw} {c:List Int} (h:cloE t c=0):TwOk t∧∀ i,i < c.length→0≤elt c i∧elt c i < t.sts.length:=by
 unfold cloE at h
 by_cases h0:chkE t=0
 ·rw [if_neg (fun e=>e h0)] at h
  refine ⟨townOk h0,fun i hi=>?_⟩
  have:=errN_zero h i hi
  unfold cloF at this
  by_cases c0:0≤elt c i∧elt c i < t.sts.length
  ·exact c0
  ·rw [if_pos c0] at this;cases this
 ·rw [if_pos h0] at h;exact absurd h h0
theorem le_nil2 (e:Int) (z:Nat):VLe (.tup [.nils,.int .i64 e]) (.tup [.lst z [],.int .i64 e]):=VLe.tup (by simp only[VLes];exact ⟨_,_,rfl,VLe.nils z,_,_,rfl,VLe.refl _,rfl⟩)
theorem c16 (t:Tw) (c:List Int) (step:Int) (hcl:c.length≤1000000):Pure Tryz.prog 16 [t.av,.lst 1 (c.map iv),.int .i64 step] (fun v=>v=ldsR t c step):=by
 have k74:=c45 t c hcl
 have k68:=c46a 0 t.steps step
 refine Pure.give Tryz.call16 fun h hall=>?_
 refine ACalls.of tab mixed Tryz.call16 Tryz.func16 rfl (fi:=⟨40,[],[3,20,36],none,[(10,[0,0,2,0,0,0,62,126,255,511],[(0,false),(1,false),(3,true),(4,false),(5,false),(2,false),(6,false),(7,false),(8,false),(9,false)])]⟩) rfl rfl (Nat.le_of_ble_eq_true rfl) (by decide) ?_
 unfold startA
 simp only[go_sem]
 by_cases h0:cloE t c=0
 case neg =>
  repeat' (first|refine st_seq_reg rfl (by first|(simp only[go_sem];rfl)|rfl) (by first|(simp only[go_sem];rfl)|rfl) ?_|refine st_op ?_|refine st_det rfl (by simp (disch:=omega) only[go_sem,wr_i64];rfl) ?_|(refine st_pureE (by first|(simp (disch:=omega) only[go_sem];rfl)|rfl) rfl (k74) (by first|(simp only[go_sem];rfl)|rfl) (by intro n;first|(simp (disch:=omega) only[go_sem];rfl)|rfl) ?_;intro n hn)|(refine st_condS rfl ?_ ?_ <;> intro hg <;> (try simp only[dcT,dcF,bnT,bnF] at hg))|refine st_nil ?_|refine st_tN ?_|refine st_seq ?_|refine st_skip ?_|refine st_ret ?_|refine st_tR ?_)
  all_goals try (exfalso;omega)
  simp (disch:=omega) only[AEnd,Tryz.results16,aresK,fin,go_sem,implies_true,true_and,and_true,List.reverse_cons,List.reverse_nil]
  refine .inl ⟨_,le_nil2 _ 2,?_⟩
  unfold ldsR;rw [if_pos h0]
 rw [h0] at k74
 obtain ⟨hT,hc⟩:=cloOk h0
 have hst:=hT.steps
 have hrn:=hT.rn
 have hsn:=hT.sn
 have k83:=c47 c hcl (fun i hi=>by have:=hc i hi;omega)
 by_cases h1:0≤step∧step≤t.steps
 case neg =>
  repeat' (first|refine st_seq_reg rfl (by first|(simp only[go_sem];rfl)|rfl) (by first|(simp only[go_sem];rfl)|rfl) ?_|refine st_op ?_|refine st_det rfl (by simp (disch:=omega) only[go_sem,wr_i64];rfl) ?_|(refine st_pureE (by first|(simp (disch:=omega) only[go_sem];rfl)|rfl) rfl (k74) (by first|(simp only[go_sem];rfl)|rfl) (by intro n;first|(simp (disch:=omega) only[go_sem];rfl)|rfl) ?_;intro n hn)|(refine st_pureE (by first|(simp (disch:=omega) only[go_sem];rfl)|rfl) rfl (k68) (by first|(simp only[go_sem];rfl)|rfl) (by intro n;first|(simp (disch:=omega) only[go_sem];rfl)|rfl) ?_;intro n hn)|refine st_condF rfl ?_|(refine st_condS rfl ?_ ?_ <;> intro hg <;> (try simp only[dcT,dcF,bnT,bnF] at hg))|refine st_nil ?_|refine st_tN ?_|refine st_seq ?_|refine st_block ?_|refine st_skip ?_|refine st_ret ?_|refine st_tR ?_)
  all_goals try (exfalso;omega)
  simp (disch:=omega) only[AEnd,Tryz.results16,aresK,fin,go_sem,implies_true,true_and,and_true,List.reverse_cons,List.reverse_nil]
  refine .inl ⟨_,le_nil2 _ 2,?_⟩
  unfold ldsR;rw [if_neg (fun e=>e h0),if_pos h1]
 have hE:ldsR t c step=.tup [.lst 2 (ldR t (cls c) step t.rooms.length),.int .i64 0]:=by
  unfold ldsR;rw [if_neg (fun e=>e h0),if_neg (fun e=>e h1)]
 repeat' (first|refine st_seq_reg rfl (by first|(simp only[go_sem,Lm];rfl)|rfl) (by first|(simp only[go_sem,Lm];rfl)|rfl) ?_|refine st_op ?_|refine st_det rfl (by simp (disch:=omega) only[go_sem,wr_i64,Lm];rfl) ?_|(refine st_pureE (by first|(simp (disch:=omega) only[go_sem,Lm];rfl)|rfl) rfl (k74) (by first|(simp only[go_sem,Lm];rfl)|rfl) (by intro n;first|(simp (disch:=omega) only[go_sem];rfl)|rfl) ?_;intro n hn)|(refine st_pureE (by first|(simp (disch:=omega) only[go_sem,Lm];rfl)|rfl) rfl (k68) (by first|(simp only[go_sem,Lm];rfl)|rfl) (by intro n;first|(simp (disch:=omega) only[go_sem];rfl)|rfl) ?_;intro n hn)|refine st_condF rfl ?_|(refine st_condS rfl ?_ ?_ <;> intro hg <;> (try simp only[dcT,dcF,bnT,bnF] at hg))|refine st_nil ?_|refine st_tN ?_|refine st_seq ?_|refine st_block ?_|refine st_skip ?_|refine st_ret ?_|refine st_tR ?_)
 all_goals try (exfalso;omega)
 refine st_loopH (α:=AlS) tab mixed [] [] (by repeat (first|exact trivial|refine ⟨rfl,?_⟩)) [] [] (by repeat (first|exact trivial|refine ⟨rfl,?_⟩)) (fun a=>[(26,.int .i64 (a.i:Nat)),(9,a.v)]) [(1,_),(2,_),(3,_),(24,_),(25,_)] (fun _=>[]) [] (fun a=>a.g) (fun a=>a.i≤t.rooms.length∧(∀ b':Nat × Nat,b'.1 < h.clk→a.g.at_ b'=h.at_ b')∧a.g.lp=h.lp∧h.clk≤a.g.clk∧SlA h.clk a.g a.v 2 (ldR t (cls c) step a.i)) (fun a=>t.rooms.length - a.i) (by decide) ⟨0,.nils,h⟩ ⟨Nat.zero_le _,fun _ _=>rfl,rfl,Nat.le_refl _,.inl ⟨rfl,rfl⟩⟩ (by (try simp only[go_sem]);repeat' (first|exact trivial|refine And.intro ?_ ?_|rfl|(simp (disch:=omega) only[go_sem,if_yes,if_no,if_no];rfl)|(simp (disch:=omega) only[go_sem,if_yes,if_no,if_no]))) (by (try simp only[go_sem]);repeat' (first|exact trivial|refine And.intro ?_ ?_|rfl|(simp (disch:=omega) only[go_sem,if_yes,if_no,if_no];rfl)|(simp (disch:=omega) only[go_sem,if_yes,if_no,if_no]))) (HOld.tick (by simp only[go_sem];omega)) ?_
 rintro ⟨i,v,g⟩ d ⟨i1,i2,i3,i4,hS⟩ hd
 dsimp only at i1 i2 i3 i4 hS hd
 simp only[go_sem]
 by_cases hi:i < t.rooms.length
 case neg =>
  obtain rfl:i=t.rooms.length:=by omega
  repeat' (first|refine st_seq_reg rfl (by first|(simp only[go_sem,Lm];rfl)|rfl) (by first|(simp only[go_sem,Lm];rfl)|rfl) ?_|refine st_draw rfl (by first|(simp only[go_sem,Lm];rfl)|rfl) (by first|(simp only[go_sem,Lm];rfl)|rfl) ?_|refine st_op ?_|refine st_det rfl (by simp (disch:=omega) only[go_sem,wr_i64,Lm];rfl) ?_|refine st_dop rfl ?_|(refine st_condS rfl ?_ ?_ <;> intro hg <;> (try simp only[dcT,dcF,bnT,bnF] at hg))|refine st_nil ?_|refine st_tN ?_|refine st_seq ?_|refine st_block ?_|refine st_skip ?_|refine st_exit ?_|refine st_ret ?_|refine st_tE ?_|refine st_bH ?_)
  all_goals try (exfalso;omega)
  simp (disch:=omega) only[AEnd,Tryz.results16,aresK,fin,go_sem,implies_true,true_and,and_true,List.reverse_cons,List.reverse_nil]
  refine ⟨hS.noL,i2,i3,SlA.ans2 hS ?_⟩
  rw [hE]
 have k71:=c48 t (cls c) (i:Nat) step hT ⟨by omega,by omega⟩
 have hl:=ldR_len t (cls c) step i
 have hnx:=ldR_next t (cls c) step i
 repeat' (first|refine st_seq_reg rfl (by first|(simp only[go_sem,Lm,hl];rfl)|rfl) (by first|(simp only[go_sem,Lm,hl];rfl)|rfl) ?_|refine st_reg rfl (by first|(simp only[go_sem,Lm,hl];rfl)|rfl) (by first|(simp only[go_sem,Lm,hl];rfl)|rfl) ?_|refine st_draw rfl (by first|(simp only[go_sem,Lm,hl];rfl)|rfl) (by first|(simp only[go_sem,Lm,hl];rfl)|rfl) ?_|refine st_op ?_|refine st_det rfl (by simp (disch:=omega) only[go_sem,wr_i64,Lm,hl];rfl) ?_|refine st_dop rfl ?_|(refine st_pureE (by first|(simp (disch:=omega) only[go_sem,Lm,hl];rfl)|rfl) rfl (k83) (by first|(simp only[go_sem,Lm,hl];rfl)|rfl) (by intro n;first|(simp (disch:=omega) only[go_sem];rfl)|rfl) ?_;intro n hn)|(refine st_pureE (by first|(simp (disch:=omega) only[go_sem,Lm,hl];rfl)|rfl) rfl (k71) (by first|(simp only[go_sem,Lm,hl];rfl)|rfl) (by intro n;first|(simp (disch:=omega) only[go_sem];rfl)|rfl) ?_;intro n hn)|(refine st_appS (by intro h id x y;simp only[go_sem];rfl) rfl (by simp only[go_sem,Lm,hl];rfl) (by first|(simp only[go_sem,Lm,hl];rfl)|rfl) (by decide) hS (fun _ _ _=>rfl) (by omega) (by simp only[Lm,List.length_cons,List.length_nil,big,Lm,hl];omega) (by omega) (by omega) ?_;intro v' g' hA)|(refine st_condS rfl ?_ ?_ <;> intro hg <;> (try simp only[dcT,dcF,bnT,bnF] at hg))|refine st_nil ?_|refine st_dnil ?_|refine st_tN ?_|refine st_seq ?_|refine st_block ?_|refine st_skip ?_|refine st_exit ?_|refine st_ret ?_|refine st_tE ?_|refine st_bN ?_|refine st_bH ?_)
 all_goals try (exfalso;omega)
 refine ⟨⟨i+1,v',_⟩,⟨by show i+1≤t.rooms.length;omega,(by exact fun b' hb'=>(hA.old b' hb').trans (i2 b' hb')),(by exact hA.lp.trans i3),(by simp only[go_sem];omega),(by rw [hnx];exact hA.sl.to (fun _ _ _ _ _=>rfl) (by simp only[go_sem];omega))⟩,by show t.rooms.length - (i+1) < t.rooms.length - i;omega,(by repeat' (first|exact trivial|refine And.intro ?_ ?_|rfl|(simp (disch:=omega) only[go_sem,if_yes,if_no,if_no];rfl)|(simp (disch:=omega) only[go_sem,if_yes,if_no,if_no]))),(by repeat' (first|exact trivial|refine And.intro ?_ ?_|rfl|(simp (disch:=omega) only[go_sem,if_yes,if_no,if_no];rfl)|(simp (disch:=omega) only[go_sem,if_yes,if_no,if_no]))),rfl,HOld.refl _⟩
end Go.Proofs.YtoafigpikgigaaaGreatDoor

namespace Go.Proofs.YtoafigpikgigaaaGreatDoor
open Go.Av
attribute [local irreducible] thenA blockA awp awpOps awpD awp1
attribute [local go_sem_proc] Nat.reduceAdd Nat.reduceMul Nat.reduceEqDiff Nat.reduceBEq Nat.reduceLeDiff
attribute [local go_sem_proc ↓] reduceIte
attribute [local go_sem] if_yes if_no
set_option maxHeartbeats 8000000
set_option maxRecDepth 20000
def idxL (l:List Int) (n:Int):Int:=match (List.range l.length).find? fun i=>decide (n=elt l i) with
 | some i=>((i:Nat):Int)
 | none=>-1
theorem idxL_has (l:List Int) (n:Int):decide (0≤idxL l n)=l.contains n:=by
 unfold idxL
 cases h:(List.range l.length).find? fun i=>decide (n=elt l i) with
 | some i =>
  have h1:=List.find?_some h
  have h2:=List.mem_range.1 (List.mem_of_find?_eq_some h)
  have h3:n=elt l i:=by simpa using h1
  have:n ∈ l:=by rw [h3];exact elt_mem h2
  rw [decide_eq_true (by dsimp only;omega),(List.contains_iff_mem).2 this]
 | none =>
  rw [List.find?_eq_none] at h
  have:¬ n ∈ l:=fun hm=>by
   obtain ⟨i,hi,e⟩:=List.mem_iff_getElem.1 hm
   refine h i (List.mem_range.2 hi) ?_
   rw [decide_eq_true_eq]
   unfold elt
   rw [List.getD_eq_getElem?_getD,List.getElem?_eq_getElem hi,← e];rfl
  have h2:l.contains n=false:=by
   cases hc:l.contains n with
   | false=>rfl
   | true=>exact absurd ((List.contains_iff_mem).1 hc) this
  rw [h2];rfl
theorem all_stepP {p:Nat→Prop} {i:Nat} (h:∀ j,j < i→p j) (hi:p i):∀ j,j < i+1→p j:=fun j hj=>by
 by_cases e:j=i
 ·rw [e];exact hi
 ·exact h j (by omega)
theorem c72 (l:List Int) (n:Int) (hl:l.length≤1000000):Pure Tryz.prog 72 [.lst 1 (l.map iv),.int .i64 n] (fun v=>v=.int .i64 (idxL l n)):=by
 intro h
 refine ACalls.forget (ACalls.of tab mixed Tryz.call72 Tryz.func72 rfl (fi:=⟨19,[],[],none,[]⟩) rfl rfl (Nat.le_of_ble_eq_true rfl) (by decide) ?_)
 unfold startA
 repeat' (first|refine st_seq_reg rfl (by first|(simp only[go_sem,Lm];rfl)|rfl) (by first|(simp only[go_sem,Lm];rfl)|rfl) ?_|refine st_op ?_|refine st_det rfl (by simp (disch:=omega) only[go_sem,wr_i64,Lm];rfl) ?_|refine st_nil ?_|refine st_seq ?_|refine st_block ?_)
 refine st_loopC (α:=Nat) tab mixed [] [] (by repeat (first|exact trivial|refine ⟨rfl,?_⟩)) [] [] (by repeat (first|exact trivial|refine ⟨rfl,?_⟩)) (fun i=>[(8,.int .i64 (i:Nat))]) [(0,_),(1,_),(7,_)] (fun _=>[]) [] (fun i=>i≤l.length∧∀ j,j < i→¬ n=elt l j) (fun i=>l.length - i) (by decide) 0 ⟨Nat.zero_le _,fun j hj=>absurd hj (Nat.not_lt_zero _)⟩ (by (try simp only[go_sem]);repeat' (first|exact trivial|refine And.intro ?_ ?_|rfl|(simp (disch:=omega) only[go_sem,if_yes,if_no,if_no];rfl)|(simp (disch:=omega) only[go_sem,if_yes,if_no,if_no]))) (by (try simp only[go_sem]);repeat' (first|exact trivial|refine And.intro ?_ ?_|rfl|(simp (disch:=omega) only[go_sem,if_yes,if_no,if_no];rfl)|(simp (disch:=omega) only[go_sem,if_yes,if_no,if_no]))) (by first|(simp only[go_sem];rfl)|rfl) (by intro n;simp only[go_sem];rfl) ?_
 rintro i c ⟨i1,i2⟩ hc
 simp only[go_sem]
 by_cases hi:i < l.length
 case pos =>
  repeat' (first|refine st_seq_reg rfl (by first|(simp only[go_sem,Lm,Nat.zero_add];rfl)|rfl) (by first|(simp only[go_sem,Lm,Nat.zero_add];rfl)|rfl) ?_|refine st_reg rfl (by first|(simp only[go_sem,Lm,Nat.zero_add];rfl)|rfl) (by first|(simp only[go_sem,Lm,Nat.zero_add];rfl)|rfl) ?_|refine st_op ?_|refine st_det rfl (by simp (disch:=omega) only[go_sem,wr_i64,Lm,Nat.zero_add];rfl) ?_|(refine st_condS rfl ?_ ?_ <;> intro hg <;> (try simp only[dcT,dcF,bnT,bnF] at hg))|refine st_nil ?_|refine st_tN ?_|refine st_seq ?_|refine st_block ?_|refine st_skip ?_|refine st_exit ?_|refine st_ret ?_|refine st_tE ?_|refine st_tR ?_|refine st_bN ?_|refine st_bR ?_|refine st_bH ?_)
  all_goals try (exfalso;omega)
  ·simp (disch:=omega) only[AEnd,Tryz.results72,aresK,fin,go_sem,implies_true,true_and,and_true,List.reverse_cons,List.reverse_nil]
   have e:(List.range l.length).find? (fun i=>decide (n=elt l i))=some i:=by
    refine List.find?_eq_some_iff_getElem.2 ⟨by simp;assumption,i,by simpa using hi,List.getElem_range _,fun j hj=>?_⟩
    rw [List.getElem_range];simpa using i2 j hj
   unfold idxL;rw [e]
  ·refine ⟨i+1,⟨by show i+1≤_;omega,all_stepP i2 (by assumption)⟩,by show l.length - (i+1) < l.length - i;omega,(by repeat' (first|exact trivial|refine And.intro ?_ ?_|rfl|(simp (disch:=omega) only[go_sem,if_yes,if_no,if_no];rfl)|(simp (disch:=omega) only[go_sem,if_yes,if_no,if_no]))),(by repeat' (first|exact trivial|refine And.intro ?_ ?_|rfl|(simp (disch:=omega) only[go_sem,if_yes,if_no,if_no];rfl)|(simp (disch:=omega) only[go_sem,if_yes,if_no,if_no]))),rfl,(by first|exact HOld.of _ (by omega)|exact HOld.put _ _ _ (by omega))⟩
 obtain rfl:i=l.length:=by omega
 repeat' (first|refine st_seq_reg rfl (by first|(simp only[go_sem,Lm];rfl)|rfl) (by first|(simp only[go_sem,Lm];rfl)|rfl) ?_|refine st_reg rfl (by first|(simp only[go_sem,Lm];rfl)|rfl) (by first|(simp only[go_sem,Lm];rfl)|rfl) ?_|refine st_op ?_|refine st_det rfl (by simp (disch:=omega) only[go_sem,wr_i64,Lm];rfl) ?_|(refine st_condS rfl ?_ ?_ <;> intro hg <;> (try simp only[dcT,dcF,bnT,bnF] at hg))|refine st_nil ?_|refine st_tN ?_|refine st_seq ?_|refine st_block ?_|refine st_skip ?_|refine st_exit ?_|refine st_ret ?_|refine st_tE ?_|refine st_tR ?_|refine st_bN ?_|refine st_bR ?_|refine st_bH ?_)
 all_goals try (exfalso;omega)
 simp (disch:=omega) only[AEnd,Tryz.results72,aresK,fin,go_sem,implies_true,true_and,and_true,List.reverse_cons,List.reverse_nil]
 have e:(List.range l.length).find? (fun i=>decide (n=elt l i))=none:=by
  rw [List.find?_eq_none]
  intro j hj
  simpa using i2 j (List.mem_range.1 hj)
 unfold idxL;rw [e]
theorem c55 (l:List Int) (n:Int) (hl:l.length≤1000000):Pure Tryz.prog 55 [.lst 1 (l.map iv),.int .i64 n] (fun v=>v=.bool (l.contains n)):=by
 have k:=c72 l n hl
 intro h
 refine ACalls.forget (ACalls.of tab mixed Tryz.call55 Tryz.func55 rfl (fi:=⟨9,[],[],none,[]⟩) rfl rfl (Nat.le_of_ble_eq_true rfl) (by decide) ?_)
 unfold startA
 repeat' (first|refine st_seq_reg rfl (by first|(simp only[go_sem];rfl)|rfl) (by first|(simp only[go_sem];rfl)|rfl) ?_|refine st_op ?_|refine st_det rfl (by simp (disch:=omega) only[go_sem,wr_i64];rfl) ?_|(refine st_pureE (by first|(simp (disch:=omega) only[go_sem];rfl)|rfl) rfl (k) (by first|(simp only[go_sem];rfl)|rfl) (by intro n;first|(simp (disch:=omega) only[go_sem];rfl)|rfl) ?_;intro n hn)|refine st_nil ?_|refine st_ret ?_)
 simp (disch:=omega) only[AEnd,Tryz.results55,aresK,fin,go_sem,implies_true,true_and,and_true,List.reverse_cons,List.reverse_nil]
 rw [idxL_has]
end Go.Proofs.YtoafigpikgigaaaGreatDoor
