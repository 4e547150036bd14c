/- Contracts of functions that the claim reaches: what each call gives, told in our own logic. Conditions: those of each theorem. -/
import Derived.Test.YthpkmcjiobnpgaaDoorX1
open List (length_map)
set_option linter.all false
set_option linter.unusedSimpArgs false
set_option linter.unusedVariables false
namespace Go.Proofs.YthpkmcjiobnpgaaDoor
open Go.Av Go.Txt Go.Lib
attribute [local irreducible] thenA blockA awp awpOps awpD awp1
attribute [local go_sem_proc] Nat.reduceAdd Nat.reduceMul Nat.reduceEqDiff Nat.reduceBEq Nat.reduceLeDiff
attribute [local go_sem_proc ↓] reduceIte
attribute [local go_sem] if_yes if_no
set_option maxHeartbeats 8000000
set_option maxRecDepth 20000
theorem c27 (f:Fl):PureG gT Tryd.prog 27 [f.av] (fun v=>v=wrV f):=by
 intro h hgl
 refine ACalls.forgetM ?_
 refine ACalls.ofS tab Tryd.call27 Tryd.func27 rfl (fi:=⟨70,[8],[1,32,60,67],none,[]⟩) rfl rfl (Nat.le_of_ble_eq_true rfl) ?_
 unfold startA
 try simp only[go_sem]
 refine asem_seq (fi:=⟨70,[8],[1,32,60,67],none,[]⟩) tab mixed (by decide) ?_
 repeat' (first|refine st_seq_reg rfl (by first|(simp only[go_sem];rfl)|rfl) (by first|(simp only[go_sem];rfl)|rfl) ?_|refine st_reg rfl (by first|(simp only[go_sem];rfl)|rfl) (by first|(simp only[go_sem];rfl)|rfl) ?_|refine st_op ?_|refine st_det rfl (by simp (disch:=omega) only[go_sem,wr_i64];rfl) ?_|refine st_loc rfl (by simp (disch:=omega) only[go_sem,wr_i64];rfl) ?_|refine st_heap rfl (by simp (disch:=omega) only[go_sem,wr_i64];rfl) ?_|refine st_store (by simp (disch:=omega) only[go_sem,wr_i64];rfl) ?_|refine st_condT rfl ?_|refine st_condF rfl ?_|(refine st_condS rfl ?_ ?_ <;> intro hg <;> (try simp only[dcT,dcF,bnT,bnF] at hg))|refine st_nil ?_|refine st_tN ?_|refine st_seq ?_|refine st_block ?_|refine st_skip ?_|refine st_exit ?_|refine st_ret ?_|refine st_tE ?_|refine st_tR ?_|refine st_bN ?_|refine st_bR ?_|refine st_bH ?_|refine st_bM rfl ?_)
 refine asem_seq (fi:=⟨70,[8],[1,32,60,67],none,[]⟩) tab mixed (by decide) ?_
 repeat' (first|refine st_seq_reg rfl (by first|(simp only[go_sem];rfl)|rfl) (by first|(simp only[go_sem];rfl)|rfl) ?_|refine st_reg rfl (by first|(simp only[go_sem];rfl)|rfl) (by first|(simp only[go_sem];rfl)|rfl) ?_|refine st_op ?_|refine st_det rfl (by simp (disch:=omega) only[go_sem,wr_i64];rfl) ?_|refine st_loc rfl (by simp (disch:=omega) only[go_sem,wr_i64];rfl) ?_|refine st_heap rfl (by simp (disch:=omega) only[go_sem,wr_i64];rfl) ?_|refine st_store (by simp (disch:=omega) only[go_sem,wr_i64];rfl) ?_|(refine st_pureE (by first|(simp (disch:=omega) only[go_sem];rfl)|rfl) rfl (c6 f) (by first|(simp only[go_sem];rfl)|rfl) (by intro n;first|(simp (disch:=omega) only[go_sem];rfl)|rfl) ?_;intro n hn)|refine st_condT rfl ?_|refine st_condF rfl ?_|(refine st_condS rfl ?_ ?_ <;> intro hg <;> (try simp only[dcT,dcF,bnT,bnF] at hg))|refine st_nil ?_|refine st_tN ?_|refine st_seq ?_|refine st_block ?_|refine st_skip ?_|refine st_exit ?_|refine st_ret ?_|refine st_tE ?_|refine st_tR ?_|refine st_bN ?_|refine st_bR ?_|refine st_bH ?_|refine st_bM rfl ?_)
 ·simp (disch:=omega) only[AEnd,Tryd.results27,aresK,fin,go_sem,implies_true,true_and,and_true,List.reverse_cons,List.reverse_nil]
  exact ⟨fun _ _ h=>h,by unfold wrV;rw [if_neg hg]⟩
 refine asem_bdNew tab (by decide) rfl ?_
 intro lb hlb
 have hE:chkE f=0:=by omega
 obtain ⟨hb1,hb2,hb3⟩:=chk_bd hE
 obtain ⟨g0,hG,hB0,ha0,hgl0,hc0⟩:∃ g0,g0=(((h.tick (n+1)).lpSet lb (some (orec #[.pointer none,.slice none 0 0] 91))))∧BdZ h g0 lb []∧g0.at_=h.at_∧g0.gl=gT∧g0.clk=n+1:=⟨_,rfl,Bd.new (h:=h) hlb,rfl,hgl,rfl⟩
 rw [← hG]
 clear hG hlb
 refine asem_seq (fi:=⟨70,[8],[1,32,60,67],none,[]⟩) tab mixed (by decide) ?_
 repeat' (first|refine st_seq_reg rfl (by first|(simp only[go_sem];rfl)|rfl) (by first|(simp only[go_sem];rfl)|rfl) ?_|refine st_reg rfl (by first|(simp only[go_sem];rfl)|rfl) (by first|(simp only[go_sem];rfl)|rfl) ?_|refine st_op ?_|refine st_det rfl (by simp (disch:=omega) only[go_sem,wr_i64];rfl) ?_|refine st_loc rfl (by simp (disch:=omega) only[go_sem,wr_i64];rfl) ?_|refine st_heap rfl (by simp (disch:=omega) only[go_sem,wr_i64];rfl) ?_|refine st_store (by simp (disch:=omega) only[go_sem,wr_i64];rfl) ?_|refine st_condT rfl ?_|refine st_condF rfl ?_|(refine st_condS rfl ?_ ?_ <;> intro hg <;> (try simp only[dcT,dcF,bnT,bnF] at hg))|refine st_nil ?_|refine st_tN ?_|refine st_seq ?_|refine st_block ?_|refine st_skip ?_|refine st_exit ?_|refine st_ret ?_|refine st_tE ?_|refine st_tR ?_|refine st_bN ?_|refine st_bR ?_|refine st_bH ?_|refine st_bM rfl ?_)
 have hlS:(rowT wFloat (flN f)).length≤100:=by
  have:=rowT_sm (w:=wFloat) hb1
  have e:wFloat.length=5:=rfl
  have e2:(flN f).length=8:=rfl
  omega
 refine asem_seq (fi:=⟨70,[8],[1,32,60,67],none,[]⟩) tab mixed (by decide) ?_
 repeat' (first|refine st_seq_reg rfl (by first|(simp only[go_sem];rfl)|rfl) (by first|(simp only[go_sem];rfl)|rfl) ?_|refine st_reg rfl (by first|(simp only[go_sem];rfl)|rfl) (by first|(simp only[go_sem];rfl)|rfl) ?_|refine st_op ?_|refine st_det rfl (by simp (disch:=omega) only[go_sem,wr_i64];rfl) ?_|refine st_loc rfl (by simp (disch:=omega) only[go_sem,wr_i64];rfl) ?_|refine st_heap rfl (by simp (disch:=omega) only[go_sem,wr_i64];rfl) ?_|refine st_store (by simp (disch:=omega) only[go_sem,wr_i64];rfl) ?_|(refine st_call rfl rfl rfl (c49 wFloat [f.len,f.wid,f.front,f.rear,f.turn,f.kilos,f.mid,f.high] lb [] h _ (by exact hgl0) (by exact hB0) (hb1.ok (by simp [flN])) (by simp) (by decide)) ?_;rintro v' h1 ⟨rfl,hB1,ha1,hk1,hg1⟩)|refine st_condT rfl ?_|refine st_condF rfl ?_|(refine st_condS rfl ?_ ?_ <;> intro hg <;> (try simp only[dcT,dcF,bnT,bnF] at hg))|refine st_nil ?_|refine st_tN ?_|refine st_seq ?_|refine st_block ?_|refine st_skip ?_|refine st_exit ?_|refine st_ret ?_|refine st_tE ?_|refine st_tR ?_|refine st_bN ?_|refine st_bR ?_|refine st_bH ?_|refine st_bM rfl ?_)
 have hB1':BdZ h h1 lb (rowT wFloat (flN f)):=hB1
 have ha1':h1.at_=h.at_:=ha1.trans ha0
 have hg1':h1.gl=gT:=hg1.trans hgl0
 have hk1':h.clk≤h1.clk:=by
  have e:n+1≤h1.clk:=Nat.le_trans (by simp only[go_sem];omega) hk1
  omega
 clear hB1 ha1 hg1 hk1 hB0 ha0
 refine asem_seq (fi:=⟨70,[8],[1,32,60,67],none,[]⟩) tab mixed (by decide) ?_
 repeat' (first|refine st_seq_reg rfl (by first|(simp only[go_sem,Lm];rfl)|rfl) (by first|(simp only[go_sem,Lm];rfl)|rfl) ?_|refine st_reg rfl (by first|(simp only[go_sem,Lm];rfl)|rfl) (by first|(simp only[go_sem,Lm];rfl)|rfl) ?_|refine st_op ?_|refine st_det rfl (by simp (disch:=omega) only[go_sem,wr_i64,Lm];rfl) ?_|refine st_loc rfl (by simp (disch:=omega) only[go_sem,wr_i64,Lm];rfl) ?_|refine st_heap rfl (by simp (disch:=omega) only[go_sem,wr_i64,Lm];rfl) ?_|refine st_store (by simp (disch:=omega) only[go_sem,wr_i64,Lm];rfl) ?_|refine st_condT rfl ?_|refine st_condF rfl ?_|(refine st_condS rfl ?_ ?_ <;> intro hg <;> (try simp only[dcT,dcF,bnT,bnF] at hg))|refine st_nil ?_|refine st_tN ?_|refine st_seq ?_|refine st_block ?_|refine st_skip ?_|refine st_exit ?_|refine st_ret ?_|refine st_tE ?_|refine st_tR ?_|refine st_bN ?_|refine st_bR ?_|refine st_bH ?_|refine st_bM rfl ?_)
 obtain ⟨b0,hb0⟩:∃ b0,b0=rowT wFloat (flN f):=⟨_,rfl⟩
 rw [← hb0] at hB1' hlS
 refine st_loopH (α:=Nat × AH) tab mixed [] [] (by repeat (first|exact trivial|refine ⟨rfl,?_⟩)) [] [] (by repeat (first|exact trivial|refine ⟨rfl,?_⟩)) (fun a=>[(37,.int .i64 (a.1:Nat))]) [(1,_),(2,_),(3,_),(6,_),(35,_),(36,_),(5,_)] (fun _=>[]) [] (fun a=>a.2) (fun a=>a.1≤f.loads.length∧BdZ h a.2 lb (b0 ++ (f.loads.take a.1).flatMap ldT)∧a.2.at_=h.at_∧h.clk≤a.2.clk∧a.2.gl=gT) (fun a=>f.loads.length - a.1) (by decide) (0,_) (by exact ⟨Nat.zero_le _,by show BdZ h h1 lb _;simpa using hB1',ha1',by show h.clk≤_;try simp only[go_sem];omega,hg1'⟩) (by (try simp only[go_sem]);repeat' (first|exact trivial|refine And.intro ?_ ?_|rfl|(simp (disch:=omega) only[go_sem,if_yes,if_no,if_no];rfl)|(simp (disch:=omega) only[go_sem,if_yes,if_no,if_no]))) (by (try simp only[go_sem]);repeat' (first|exact trivial|refine And.intro ?_ ?_|rfl|(simp (disch:=omega) only[go_sem,if_yes,if_no,if_no];rfl)|(simp (disch:=omega) only[go_sem,if_yes,if_no,if_no]))) (HOld.refl _) ?_
 rintro ⟨i,g2⟩ c2 ⟨hi,hB2,ha2,hk2,hg2⟩ hc2
 dsimp only at hi hB2 ha2 hk2 hg2 hc2
 simp only[go_sem]
 by_cases hil:i < f.loads.length
 case pos =>
  have hfl:((f.loads.take i).flatMap ldT).length≤70 * 20:=Nat.le_trans (flat_len (fun x hx=>ldT_len (hb3 x (List.mem_of_mem_take hx)))) (Nat.mul_le_mul_left _ (by rw [List.length_take];omega))
  have hx:=hb3 _ (ld_mem hil)
  repeat' (first|refine st_seq_reg rfl (by first|(simp only[go_sem,Lm];rfl)|rfl) (by first|(simp only[go_sem,Lm];rfl)|rfl) ?_|refine st_reg rfl (by first|(simp only[go_sem,Lm];rfl)|rfl) (by first|(simp only[go_sem,Lm];rfl)|rfl) ?_|refine st_op ?_|refine st_det rfl (by simp (disch:=omega) only[go_sem,wr_i64,Lm];rfl) ?_|refine st_loc rfl (by simp (disch:=omega) only[go_sem,wr_i64,Lm];rfl) ?_|refine st_heap rfl (by simp (disch:=omega) only[go_sem,wr_i64,Lm];rfl) ?_|refine st_store (by simp (disch:=omega) only[go_sem,wr_i64,Lm];rfl) ?_|(refine st_call rfl rfl rfl (c49 wLoad [(ld f.loads i).at_,(ld f.loads i).lo,(ld f.loads i).hi,(ld f.loads i).tlo,(ld f.loads i).thi,(ld f.loads i).kind,(ld f.loads i).watts] lb _ h _ (by exact hg2) (by exact hB2) (hx.ok (by simp [ldN])) (by rw [List.length_append];omega) (by decide)) ?_;rintro v' h2 ⟨rfl,hB3,ha3,hk3,hg3⟩)|refine st_condT rfl ?_|refine st_condF rfl ?_|(refine st_condS rfl ?_ ?_ <;> intro hg <;> (try simp only[dcT,dcF,bnT,bnF] at hg))|refine st_nil ?_|refine st_tN ?_|refine st_seq ?_|refine st_block ?_|refine st_skip ?_|refine st_exit ?_|refine st_ret ?_|refine st_tE ?_|refine st_tR ?_|refine st_bN ?_|refine st_bR ?_|refine st_bH ?_|refine st_bM rfl ?_)
  all_goals try (exfalso;omega)
  have hB4:BdZ h h2 lb (b0 ++ (f.loads.take (i+1)).flatMap ldT):=by rw [flat_take (d:=⟨0,0,0,0,0,0,0⟩) hil,← List.append_assoc];exact hB3
  have hk4:h.clk≤h2.clk:=Nat.le_trans (Nat.le_trans hk2 (Nat.le_trans hc2 (by simp only[go_sem];omega))) hk3
  refine ⟨(i+1,_),(by exact ⟨by show i+1≤f.loads.length;omega,hB4,ha3.trans ha2,by show h.clk≤_;try simp only[go_sem];omega,hg3.trans hg2⟩),(by show f.loads.length - (i+1) < f.loads.length - i;omega),(by repeat' (first|exact trivial|refine And.intro ?_ ?_|rfl|(simp (disch:=omega) only[go_sem,if_yes,if_no,if_no];rfl)|(simp (disch:=omega) only[go_sem,if_yes,if_no,if_no]))),(by repeat' (first|exact trivial|refine And.intro ?_ ?_|rfl|(simp (disch:=omega) only[go_sem,if_yes,if_no,if_no];rfl)|(simp (disch:=omega) only[go_sem,if_yes,if_no,if_no]))),rfl,HOld.refl _⟩
 obtain rfl:i=f.loads.length:=by omega
 rw [List.take_length] at hB2
 have hfw:(f.loads.flatMap ldT).length≤70 * 20:=Nat.le_trans (flat_len (fun x hx=>ldT_len (hb3 x hx))) (Nat.mul_le_mul_left _ hb2)
 repeat' (first|refine st_seq_reg rfl (by first|(simp only[go_sem,Lm];rfl)|rfl) (by first|(simp only[go_sem,Lm];rfl)|rfl) ?_|refine st_reg rfl (by first|(simp only[go_sem,Lm];rfl)|rfl) (by first|(simp only[go_sem,Lm];rfl)|rfl) ?_|refine st_op ?_|refine st_det rfl (by simp (disch:=omega) only[go_sem,wr_i64,Lm];rfl) ?_|refine st_loc rfl (by simp (disch:=omega) only[go_sem,wr_i64,Lm];rfl) ?_|refine st_heap rfl (by simp (disch:=omega) only[go_sem,wr_i64,Lm];rfl) ?_|refine st_store (by simp (disch:=omega) only[go_sem,wr_i64,Lm];rfl) ?_|refine st_condT rfl ?_|refine st_condF rfl ?_|(refine st_condS rfl ?_ ?_ <;> intro hg <;> (try simp only[dcT,dcF,bnT,bnF] at hg))|refine st_nil ?_|refine st_tN ?_|refine st_seq ?_|refine st_block ?_|refine st_skip ?_|refine st_exit ?_|refine st_ret ?_|refine st_tE ?_|refine st_tR ?_|refine st_bN ?_|refine st_bR ?_|refine st_bH ?_|refine st_bM rfl ?_)
 all_goals try (exfalso;omega)
 refine asem_seq (fi:=⟨70,[8],[1,32,60,67],none,[]⟩) tab mixed (by decide) ?_
 repeat' (first|refine st_seq_reg rfl (by first|(simp only[go_sem,Lm];rfl)|rfl) (by first|(simp only[go_sem,Lm];rfl)|rfl) ?_|refine st_reg rfl (by first|(simp only[go_sem,Lm];rfl)|rfl) (by first|(simp only[go_sem,Lm];rfl)|rfl) ?_|refine st_op ?_|refine st_det rfl (by simp (disch:=omega) only[go_sem,wr_i64,Lm];rfl) ?_|refine st_loc rfl (by simp (disch:=omega) only[go_sem,wr_i64,Lm];rfl) ?_|refine st_heap rfl (by simp (disch:=omega) only[go_sem,wr_i64,Lm];rfl) ?_|refine st_store (by simp (disch:=omega) only[go_sem,wr_i64,Lm];rfl) ?_|(refine st_call rfl rfl rfl (c49 wEnd [(f.loads.length:Int)] lb _ h _ (by exact hg2) (by exact hB2) ((sm_len hb2).ok (by simp)) (by rw [List.length_append];omega) (by decide)) ?_;rintro v' h2 ⟨rfl,hB3,ha3,hk3,hg3⟩)|refine st_condT rfl ?_|refine st_condF rfl ?_|(refine st_condS rfl ?_ ?_ <;> intro hg <;> (try simp only[dcT,dcF,bnT,bnF] at hg))|refine st_nil ?_|refine st_tN ?_|refine st_seq ?_|refine st_block ?_|refine st_skip ?_|refine st_exit ?_|refine st_ret ?_|refine st_tE ?_|refine st_tR ?_|refine st_bN ?_|refine st_bR ?_|refine st_bH ?_|refine st_bM rfl ?_)
 have eT:b0 ++ f.loads.flatMap ldT ++ rowT wEnd [(f.loads.length:Int)]=cardT f:=by rw [hb0];rfl
 rw [eT] at hB3
 have hne:cardT f ≠ []:=by
  rw [← eT];unfold rowT;simp
 refine asem_seq (fi:=⟨70,[8],[1,32,60,67],none,[]⟩) tab mixed (by decide) ?_
 repeat' (first|refine st_seq_reg rfl (by first|(simp only[go_sem];rfl)|rfl) (by first|(simp only[go_sem];rfl)|rfl) ?_|refine st_reg rfl (by first|(simp only[go_sem];rfl)|rfl) (by first|(simp only[go_sem];rfl)|rfl) ?_|refine st_op ?_|refine st_det rfl (by simp (disch:=omega) only[go_sem,wr_i64];rfl) ?_|refine st_loc rfl (by simp (disch:=omega) only[go_sem,wr_i64];rfl) ?_|refine st_heap rfl (by simp (disch:=omega) only[go_sem,wr_i64];rfl) ?_|refine st_store (by simp (disch:=omega) only[go_sem,wr_i64];rfl) ?_|(refine st_callf rfl rfl (c53 (by exact hB3) hne) ?_;rintro v' h4 ⟨rfl,hlp,ha4,hk4,hg4⟩)|refine st_condT rfl ?_|refine st_condF rfl ?_|(refine st_condS rfl ?_ ?_ <;> intro hg <;> (try simp only[dcT,dcF,bnT,bnF] at hg))|refine st_nil ?_|refine st_tN ?_|refine st_seq ?_|refine st_block ?_|refine st_skip ?_|refine st_exit ?_|refine st_ret ?_|refine st_tE ?_|refine st_tR ?_|refine st_bN ?_|refine st_bR ?_|refine st_bH ?_|refine st_bM rfl ?_)
 refine asem_awp (fi:=⟨70,[8],[1,32,60,67],none,[]⟩) tab mixed (by decide) ?_
 repeat' (first|refine st_seq_reg rfl (by first|(simp only[go_sem];rfl)|rfl) (by first|(simp only[go_sem];rfl)|rfl) ?_|refine st_reg rfl (by first|(simp only[go_sem];rfl)|rfl) (by first|(simp only[go_sem];rfl)|rfl) ?_|refine st_op ?_|refine st_det rfl (by simp (disch:=omega) only[go_sem,wr_i64];rfl) ?_|refine st_loc rfl (by simp (disch:=omega) only[go_sem,wr_i64];rfl) ?_|refine st_heap rfl (by simp (disch:=omega) only[go_sem,wr_i64];rfl) ?_|refine st_store (by simp (disch:=omega) only[go_sem,wr_i64];rfl) ?_|refine st_condT rfl ?_|refine st_condF rfl ?_|(refine st_condS rfl ?_ ?_ <;> intro hg <;> (try simp only[dcT,dcF,bnT,bnF] at hg))|refine st_nil ?_|refine st_tN ?_|refine st_seq ?_|refine st_block ?_|refine st_skip ?_|refine st_exit ?_|refine st_ret ?_|refine st_tE ?_|refine st_tR ?_|refine st_bN ?_|refine st_bR ?_|refine st_bH ?_|refine st_bM rfl ?_)
 simp (disch:=omega) only[AEnd,Tryd.results27,aresK,fin,go_sem,implies_true,true_and,and_true,List.reverse_cons,List.reverse_nil]
 refine ⟨fun b hb=>?_,hlp,by unfold wrV;rw [if_pos hE]⟩
 rw [ha4]
 show h2.at_ b=_
 rw [ha3]
 exact congrFun ha2 b
end Go.Proofs.YthpkmcjiobnpgaaDoor

namespace Go.Proofs.YthpkmcjiobnpgaaDoor
open Go.Av
attribute [local irreducible] thenA blockA awp awpOps awpD awp1
attribute [local go_sem_proc] Nat.reduceAdd Nat.reduceMul Nat.reduceEqDiff Nat.reduceBEq Nat.reduceLeDiff
attribute [local go_sem_proc ↓] reduceIte
attribute [local go_sem] if_yes if_no
set_option maxHeartbeats 8000000
set_option maxRecDepth 20000
def wL (arm:Int→Int) (f:Fl) (p m:Int):Int:=wl arm (f.kilos * arm f.mid+m * arm p) f.loads
def wH (arm:Int→Int) (f:Fl) (p m:Int):Int:=wh arm (f.kilos * arm f.mid+m * arm p) f.loads
def oneA:Int→Int:=fun _=>1
def frontA (f:Fl):Int→Int:=fun a=>f.rear - a
def rearA (f:Fl):Int→Int:=fun a=>a - f.front
theorem c22 (f:Fl) (p m:Int) (hf:FlOk f) (hp:0≤p∧p≤3000) (hm:0≤m∧m≤100000):Pure Tryd.prog 22 [Tk.av f p m] (fun v=>v=.agg [.int .i64 (wL oneA f p m),.int .i64 (wH oneA f p m)]):=by
 intro h
 refine ACalls.forget (ACalls.of tab mixed Tryd.call22 Tryd.func22 rfl (fi:=⟨5,[2],[1],none,[]⟩) rfl rfl (Nat.le_of_ble_eq_true rfl) (by decide) ?_)
 unfold startA
 simp only[go_sem]
 repeat' (first|refine st_seq_reg rfl (by first|(simp only[go_sem];rfl)|rfl) (by first|(simp only[go_sem];rfl)|rfl) ?_|refine st_reg rfl (by first|(simp only[go_sem];rfl)|rfl) (by first|(simp only[go_sem];rfl)|rfl) ?_|refine st_op ?_|refine st_det rfl (by simp (disch:=omega) only[go_sem,wr_i64];rfl) ?_|refine st_loc rfl (by simp (disch:=omega) only[go_sem,wr_i64];rfl) ?_|refine st_heap rfl (by simp (disch:=omega) only[go_sem,wr_i64];rfl) ?_|refine st_store (by simp (disch:=omega) only[go_sem,wr_i64];rfl) ?_|(refine st_pureE (by first|(simp (disch:=omega) only[go_sem];rfl)|rfl) rfl (c44 f p m 45 [] oneA hf hp hm (fun a _ _=>c45 a) (by intros;unfold oneA;omega)) (by first|(simp only[go_sem];rfl)|rfl) (by intro n;first|(simp (disch:=omega) only[go_sem];rfl)|rfl) ?_;intro n hn)|refine st_nil ?_|refine st_tN ?_|refine st_seq ?_|refine st_skip ?_|refine st_ret ?_|refine st_tE ?_|refine st_tR ?_)
 simp (disch:=omega) only[AEnd,Tryd.results22,aresK,fin,go_sem,implies_true,true_and,and_true,List.reverse_cons,List.reverse_nil]
 rfl
theorem c34 (f:Fl) (p m:Int) (hf:FlOk f) (hp:0≤p∧p≤3000) (hm:0≤m∧m≤100000):Pure Tryd.prog 34 [Tk.av f p m] (fun v=>v=.agg [.int .i64 (wL (frontA f) f p m),.int .i64 (wH (frontA f) f p m)]):=by
 have h1:=hf.len;have h2:=hf.axles
 intro h
 refine ACalls.forget (ACalls.of tab mixed Tryd.call34 Tryd.func34 rfl (fi:=⟨6,[2],[1],none,[]⟩) rfl rfl (Nat.le_of_ble_eq_true rfl) (by decide) ?_)
 unfold startA
 simp only[go_sem]
 repeat' (first|refine st_seq_reg rfl (by first|(simp only[go_sem];rfl)|rfl) (by first|(simp only[go_sem];rfl)|rfl) ?_|refine st_reg rfl (by first|(simp only[go_sem];rfl)|rfl) (by first|(simp only[go_sem];rfl)|rfl) ?_|refine st_op ?_|refine st_det rfl (by simp (disch:=omega) only[go_sem,wr_i64];rfl) ?_|refine st_loc rfl (by simp (disch:=omega) only[go_sem,wr_i64];rfl) ?_|refine st_heap rfl (by simp (disch:=omega) only[go_sem,wr_i64];rfl) ?_|refine st_store (by simp (disch:=omega) only[go_sem,wr_i64];rfl) ?_|(refine st_pureE (by first|(simp (disch:=omega) only[go_sem];rfl)|rfl) rfl (c44 f p m 54 [.iptr (Tk.av f p m).cells 0] (frontA f) hf hp hm (fun a g1 g2=>c54 f p m a ⟨g1,g2⟩ (by omega)) (by intros;unfold frontA;omega)) (by first|(simp only[go_sem];rfl)|rfl) (by intro n;first|(simp (disch:=omega) only[go_sem];rfl)|rfl) ?_;intro n hn)|refine st_nil ?_|refine st_tN ?_|refine st_seq ?_|refine st_skip ?_|refine st_ret ?_|refine st_tE ?_|refine st_tR ?_)
 simp (disch:=omega) only[AEnd,Tryd.results34,aresK,fin,go_sem,implies_true,true_and,and_true,List.reverse_cons,List.reverse_nil]
 rfl
theorem c35 (f:Fl) (p m:Int) (hf:FlOk f) (hp:0≤p∧p≤3000) (hm:0≤m∧m≤100000):Pure Tryd.prog 35 [Tk.av f p m] (fun v=>v=.agg [.int .i64 (wL (rearA f) f p m),.int .i64 (wH (rearA f) f p m)]):=by
 have h1:=hf.len;have h2:=hf.axles
 intro h
 refine ACalls.forget (ACalls.of tab mixed Tryd.call35 Tryd.func35 rfl (fi:=⟨6,[2],[1],none,[]⟩) rfl rfl (Nat.le_of_ble_eq_true rfl) (by decide) ?_)
 unfold startA
 simp only[go_sem]
 repeat' (first|refine st_seq_reg rfl (by first|(simp only[go_sem];rfl)|rfl) (by first|(simp only[go_sem];rfl)|rfl) ?_|refine st_reg rfl (by first|(simp only[go_sem];rfl)|rfl) (by first|(simp only[go_sem];rfl)|rfl) ?_|refine st_op ?_|refine st_det rfl (by simp (disch:=omega) only[go_sem,wr_i64];rfl) ?_|refine st_loc rfl (by simp (disch:=omega) only[go_sem,wr_i64];rfl) ?_|refine st_heap rfl (by simp (disch:=omega) only[go_sem,wr_i64];rfl) ?_|refine st_store (by simp (disch:=omega) only[go_sem,wr_i64];rfl) ?_|(refine st_pureE (by first|(simp (disch:=omega) only[go_sem];rfl)|rfl) rfl (c44 f p m 55 [.iptr (Tk.av f p m).cells 0] (rearA f) hf hp hm (fun a g1 g2=>c55 f p m a ⟨g1,g2⟩ (by omega)) (by intros;unfold rearA;omega)) (by first|(simp only[go_sem];rfl)|rfl) (by intro n;first|(simp (disch:=omega) only[go_sem];rfl)|rfl) ?_;intro n hn)|refine st_nil ?_|refine st_tN ?_|refine st_seq ?_|refine st_skip ?_|refine st_ret ?_|refine st_tE ?_|refine st_tR ?_)
 simp (disch:=omega) only[AEnd,Tryd.results35,aresK,fin,go_sem,implies_true,true_and,and_true,List.reverse_cons,List.reverse_nil]
 rfl
def tl (s:Int) (l:List Ld):Int:=(l.map (·.tlo)).foldl max s
def th (s:Int) (l:List Ld):Int:=(l.map (·.thi)).foldl max s
@[go_sem] theorem tl_nil (s:Int):tl s []=s:=rfl
@[go_sem] theorem th_nil (s:Int):th s []=s:=rfl
theorem tl_step {s:Int} {l:List Ld} {i:Nat} (h:i < l.length):tl s (l.take (i+1))=max (tl s (l.take i)) (ld l i).tlo:=by
 unfold tl ld;rw [List.take_succ_eq_append_getElem h,List.map_append,List.foldl_append,List.getD_eq_getElem?_getD,List.getElem?_eq_getElem h];rfl
theorem th_step {s:Int} {l:List Ld} {i:Nat} (h:i < l.length):th s (l.take (i+1))=max (th s (l.take i)) (ld l i).thi:=by
 unfold th ld;rw [List.take_succ_eq_append_getElem h,List.map_append,List.foldl_append,List.getD_eq_getElem?_getD,List.getElem?_eq_getElem h];rfl
theorem c23 (f:Fl) (p m:Int) (hf:FlOk f):Pure Tryd.prog 23 [Tk.av f p m] (fun v=>v=.agg [.int .i64 (tl f.high f.loads),.int .i64 (th f.high f.loads)]):=by
 have h4:=hf.loads.1
 have e1:∀ i,i < f.loads.length→_:=fun i h=>tl_step (s:=f.high) h
 have e2:∀ i,i < f.loads.length→_:=fun i h=>th_step (s:=f.high) h
 intro h
 refine ACalls.forget (ACalls.of tab mixed Tryd.call23 Tryd.func23 rfl (fi:=⟨36,[2,3,5],[1],none,[]⟩) rfl rfl (Nat.le_of_ble_eq_true rfl) (by decide) ?_)
 unfold startA
 simp only[go_sem]
 repeat' (first|refine st_seq_reg rfl (by first|(simp only[go_sem];rfl)|rfl) (by first|(simp only[go_sem];rfl)|rfl) ?_|refine st_reg rfl (by first|(simp only[go_sem];rfl)|rfl) (by first|(simp only[go_sem];rfl)|rfl) ?_|refine st_op ?_|refine st_det rfl (by simp (disch:=omega) only[go_sem,wr_i64];rfl) ?_|refine st_loc rfl (by simp (disch:=omega) only[go_sem,wr_i64];rfl) ?_|refine st_heap rfl (by simp (disch:=omega) only[go_sem,wr_i64];rfl) ?_|refine st_store (by simp (disch:=omega) only[go_sem,wr_i64];rfl) ?_|refine st_condT rfl ?_|refine st_condF rfl ?_|(refine st_condS rfl ?_ ?_ <;> intro hg <;> (try simp only[dcT,dcF,bnT,bnF] at hg))|refine st_nil ?_|refine st_tN ?_|refine st_seq ?_|refine st_block ?_|refine st_skip ?_|refine st_exit ?_|refine st_ret ?_|refine st_tE ?_|refine st_tR ?_|refine st_bN ?_|refine st_bR ?_|refine st_bH ?_|refine st_bM rfl ?_)
 refine st_loopC (α:=Nat) tab mixed [3] [_] (by repeat (first|exact trivial|refine ⟨rfl,?_⟩)) [2] [_] (by repeat (first|exact trivial|refine ⟨rfl,?_⟩)) (fun i=>[(17,.int .i64 i)]) [(1,_),(2,_),(3,_),(15,_),(16,_)] (fun i=>[[.int .i64 (tl f.high (f.loads.take i)),.int .i64 (th f.high (f.loads.take i))]]) [_] (fun i=>i≤f.loads.length) (fun i=>f.loads.length - i) (by decide) 0 (by omega) (by (try simp only[go_sem]);repeat' (first|exact trivial|refine And.intro ?_ ?_|rfl|(simp (disch:=omega) only[go_sem,if_yes,if_no,if_no];rfl)|(simp (disch:=omega) only[go_sem,if_yes,if_no,if_no]))) (by (try simp only[go_sem]);repeat' (first|exact trivial|refine And.intro ?_ ?_|rfl|(simp (disch:=omega) only[go_sem,if_yes,if_no,if_no];rfl)|(simp (disch:=omega) only[go_sem,if_yes,if_no,if_no]))) (by first|(simp only[go_sem];rfl)|rfl) (by intro n;simp only[go_sem];rfl) ?_
 rintro i c hi' hc
 simp only[go_sem]
 repeat' (first|refine st_seq_reg rfl (by first|(simp only[go_sem];rfl)|rfl) (by first|(simp only[go_sem];rfl)|rfl) ?_|refine st_reg rfl (by first|(simp only[go_sem];rfl)|rfl) (by first|(simp only[go_sem];rfl)|rfl) ?_|refine st_op ?_|refine st_det rfl (by simp (disch:=omega) only[go_sem,wr_i64];rfl) ?_|refine st_loc rfl (by simp (disch:=omega) only[go_sem,wr_i64];rfl) ?_|refine st_heap rfl (by simp (disch:=omega) only[go_sem,wr_i64];rfl) ?_|refine st_store (by simp (disch:=omega) only[go_sem,wr_i64];rfl) ?_|refine st_condT rfl ?_|refine st_condF rfl ?_|(refine st_condS rfl ?_ ?_ <;> intro hg <;> (try simp only[dcT,dcF,bnT,bnF] at hg))|refine st_nil ?_|refine st_tN ?_|refine st_seq ?_|refine st_block ?_|refine st_skip ?_|refine st_exit ?_|refine st_ret ?_|refine st_tE ?_|refine st_tR ?_|refine st_bN ?_|refine st_bR ?_|refine st_bH ?_|refine st_bM rfl ?_)
 ·refine ⟨i+1,(by omega),by omega,(by (try (rw [e1 i (by omega),e2 i (by omega)]));repeat' (first|exact trivial|refine And.intro ?_ ?_|rfl|(simp (disch:=omega) only[go_sem,if_yes,if_no,if_no];rfl)|(simp (disch:=omega) only[go_sem,if_yes,if_no,if_no]))),(by (try (rw [e1 i (by omega),e2 i (by omega)]));repeat' (first|exact trivial|refine And.intro ?_ ?_|rfl|(simp (disch:=omega) only[go_sem,if_yes,if_no,if_no];rfl)|(simp (disch:=omega) only[go_sem,if_yes,if_no,if_no]))),rfl,(by first|exact HOld.of _ (by omega)|exact HOld.put _ _ _ (by omega))⟩
 ·rw [List.take_of_length_le (by omega)]
  simp (disch:=omega) only[AEnd,Tryd.results23,aresK,fin,go_sem,implies_true,true_and,and_true,List.reverse_cons,List.reverse_nil]
end Go.Proofs.YthpkmcjiobnpgaaDoor

namespace Go.Proofs.YthpkmcjiobnpgaaDoor
open Go.Av
attribute [local irreducible] thenA blockA awp awpOps awpD awp1
attribute [local go_sem_proc] Nat.reduceAdd Nat.reduceMul Nat.reduceEqDiff Nat.reduceBEq Nat.reduceLeDiff
attribute [local go_sem_proc ↓] reduceIte
attribute [local go_sem] if_yes if_no
set_option maxHeartbeats 8000000
set_option maxRecDepth 20000
structure HuOk (x:Hu):Prop where
 a:0≤x.a∧x.a≤10000000
 b:0≤x.b∧x.b≤10000000
 bend:x.kind=1→x.a≤20000∧x.b≤20000
def outR (f:Fl) (r:Int):Int:=(2 * r+f.wid) * (2 * r+f.wid)+2 * max f.rear (f.len - f.rear) * (2 * max f.rear (f.len - f.rear))
def bR (f:Fl) (x:Hu):Int:=max f.turn ((2 * x.a+f.wid+1) / 2)
def bendP (f:Fl) (x:Hu):Prop:=outR f (bR f x)≤4 * x.b * x.b
instance (f:Fl) (x:Hu):Decidable (bendP f x):=by unfold bendP;infer_instance
theorem sq_bd {a A:Int} (h:0≤a∧a≤A):0≤a * a∧a * a≤A * A :=
 ⟨Int.mul_nonneg h.1 h.1,Int.mul_le_mul h.2 h.2 h.1 (by omega)⟩
theorem c68 (f:Fl) (p m r:Int) (hf:FlOk f) (hr:0≤r∧r≤50000):Pure Tryd.prog 68 [.int .i64 r,.iptr (Tk.av f p m).cells 0] (fun v=>v=.int .i64 (outR f r)):=by
 have h1:=hf.len;have h2:=hf.axles;have h3:=hf.wid
 have s1:=sq_bd (a:=2 * r+f.wid) (A:=200000) (by omega)
 have s2:=sq_bd (a:=2 * max f.rear (f.len - f.rear)) (A:=200000) (by omega)
 intro h
 refine ACalls.forget (ACalls.of tab mixed Tryd.call68 Tryd.func68 rfl (fi:=⟨31,[],[],none,[(1,[0,1,0,4,12,31,0,64,192,0,512,1536,0,4096,12288,32256,65472,131008,63,524287],[(0,false),(1,false),(2,false),(3,false),(4,true),(5,false),(6,false),(7,false),(8,true),(9,false),(10,false),(11,true),(12,false),(13,false),(14,true),(15,false),(16,false),(17,false),(18,false),(19,false)])]⟩) rfl rfl (Nat.le_of_ble_eq_true rfl) (by decide) ?_)
 unfold startA
 simp only[go_sem]
 repeat' (first|refine st_seq_reg rfl (by first|(simp only[go_sem];rfl)|rfl) (by first|(simp only[go_sem];rfl)|rfl) ?_|refine st_reg rfl (by first|(simp only[go_sem];rfl)|rfl) (by first|(simp only[go_sem];rfl)|rfl) ?_|refine st_seq_draw rfl (by first|(simp only[go_sem];rfl)|rfl) (by first|(simp only[go_sem];rfl)|rfl) ?_|refine st_draw rfl (by first|(simp only[go_sem];rfl)|rfl) (by first|(simp only[go_sem];rfl)|rfl) ?_|refine st_op ?_|refine st_det rfl (by simp (disch:=omega) only[go_sem,wr_i64];rfl) ?_|refine st_dop rfl ?_|refine st_nil ?_|refine st_dnil ?_|refine st_tN ?_|refine st_seq ?_|refine st_skip ?_|refine st_ret ?_|refine st_tE ?_|refine st_tR ?_)
 simp (disch:=omega) only[AEnd,Tryd.results68,aresK,fin,go_sem,implies_true,true_and,and_true,List.reverse_cons,List.reverse_nil]
 rfl
theorem c64 (f:Fl) (p m:Int) (x:Hu) (hf:FlOk f) (ha:0≤x.a∧x.a≤20000) (hb:0≤x.b∧x.b≤20000):Pure Tryd.prog 64 [Tk.av f p m,x.av] (fun v=>v=.bool (decide (bendP f x))):=by
 have h1:=hf.len;have h2:=hf.axles;have h3:=hf.wid;have h4:=hf.turn
 have e:(2 * x.a+f.wid+1).tdiv 2=(2 * x.a+f.wid+1) / 2:=Int.tdiv_eq_ediv_of_nonneg (by omega)
 have s1:=mul_bd (k:=4 * x.b) (x:=x.b) (K:=80000) (A:=20000) (by omega) (by omega)
 intro h
 refine ACalls.forget (ACalls.of tab mixed Tryd.call64 Tryd.func64 rfl (fi:=⟨31,[],[2,3],none,[(3,[0,0,3,0,8,24,0,64,248,511,1023],[(0,false),(1,false),(3,false),(4,true),(5,false),(6,false),(7,true),(8,false),(2,false),(9,false),(10,false)])]⟩) rfl rfl (Nat.le_of_ble_eq_true rfl) (by decide) ?_)
 unfold startA
 simp only[go_sem]
 repeat' (first|refine st_seq_reg rfl (by first|(simp only[go_sem,e];rfl)|rfl) (by first|(simp only[go_sem,e];rfl)|rfl) ?_|refine st_reg rfl (by first|(simp only[go_sem,e];rfl)|rfl) (by first|(simp only[go_sem,e];rfl)|rfl) ?_|refine st_seq_draw rfl (by first|(simp only[go_sem,e];rfl)|rfl) (by first|(simp only[go_sem,e];rfl)|rfl) ?_|refine st_draw rfl (by first|(simp only[go_sem,e];rfl)|rfl) (by first|(simp only[go_sem,e];rfl)|rfl) ?_|refine st_op ?_|refine st_det rfl (by simp (disch:=omega) only[go_sem,wr_i64,e];rfl) ?_|refine st_dop rfl ?_|refine st_loc rfl (by simp (disch:=omega) only[go_sem,wr_i64,e];rfl) ?_|refine st_heap rfl (by simp (disch:=omega) only[go_sem,wr_i64,e];rfl) ?_|(refine st_pureV (by first|(simp only[go_sem,e];rfl)|rfl) (by first|(simp (disch:=omega) only[go_sem,e];rfl)|rfl) rfl (c68 f p m (bR f x) hf (by unfold bR;omega)) (by first|(simp only[go_sem,e];rfl)|rfl) (by intro n;first|(simp (disch:=omega) only[go_sem];rfl)|rfl) ?_;intro v n hv hn;subst hv)|refine st_nil ?_|refine st_dnil ?_|refine st_tN ?_|refine st_seq ?_|refine st_skip ?_|refine st_ret ?_|refine st_tE ?_|refine st_tR ?_)
 simp (disch:=omega) only[AEnd,Tryd.results64,aresK,fin,go_sem,implies_true,true_and,and_true,List.reverse_cons,List.reverse_nil]
 rfl
theorem base_bd {f:Fl} (hf:FlOk f):0≤f.rear - f.front∧f.rear - f.front≤3000:=by have h1:=hf.len;have h2:=hf.axles;omega
def brP (l:(Int→Int)→Fl→Int→Int→Int) (f:Fl) (p m:Int) (x:Hu):Prop:=l oneA f p m≤x.a∧max (l (frontA f) f p m) (l (rearA f) f p m)≤x.b * (f.rear - f.front)
instance (l:(Int→Int)→Fl→Int→Int→Int) (f:Fl) (p m:Int) (x:Hu):Decidable (brP l f p m x):=by unfold brP;infer_instance
theorem c65a (f:Fl) (p m:Int) (x:Hu) (hf:FlOk f) (hp:0≤p∧p≤3000) (hm:0≤m∧m≤100000) (hx:HuOk x):Pure Tryd.prog 65 [.int .i64 0,.iptr (Tk.av f p m).cells 0,.iptr x.row 0] (fun v=>v=.bool (decide (brP wL f p m x))):=by
 have s1:=mul_bd hx.b (A:=3000) (x:=f.rear - f.front) (by have:=base_bd hf;omega)
 intro h
 refine ACalls.forget (ACalls.of tab mixed Tryd.call65 Tryd.func65 rfl (fi:=⟨29,[],[],none,[(1,[0,1,0,7,0,16,63,127,255,511,255,2047,255,5119,255,29695,65535,255,131327,255,537599,1979391,4194303,8388607,16777215],[(0,true),(2,false),(4,false),(5,true),(1,false),(3,false),(6,false),(7,false),(8,true),(10,false),(12,true),(14,false),(17,false),(18,true),(19,true),(9,false),(11,false),(13,false),(15,false),(16,false),(20,false),(21,false),(22,false),(23,false),(24,false)])]⟩) rfl rfl (Nat.le_of_ble_eq_true rfl) (by decide) ?_)
 unfold startA
 simp only[go_sem]
 repeat' (first|refine st_seq_reg rfl (by first|(simp only[go_sem];rfl)|rfl) (by first|(simp only[go_sem];rfl)|rfl) ?_|refine st_reg rfl (by first|(simp only[go_sem];rfl)|rfl) (by first|(simp only[go_sem];rfl)|rfl) ?_|refine st_seq_draw rfl (by first|(simp only[go_sem];rfl)|rfl) (by first|(simp only[go_sem];rfl)|rfl) ?_|refine st_draw rfl (by first|(simp only[go_sem];rfl)|rfl) (by first|(simp only[go_sem];rfl)|rfl) ?_|refine st_op ?_|refine st_det rfl (by simp (disch:=omega) only[go_sem,wr_i64];rfl) ?_|refine st_dop rfl ?_|(refine st_pureE (by first|(simp (disch:=omega) only[go_sem];rfl)|rfl) rfl (c22 f p m hf hp hm) (by first|(simp only[go_sem];rfl)|rfl) (by intro n;first|(simp (disch:=omega) only[go_sem];rfl)|rfl) ?_;intro n hn)|(refine st_pureE (by first|(simp (disch:=omega) only[go_sem];rfl)|rfl) rfl (c34 f p m hf hp hm) (by first|(simp only[go_sem];rfl)|rfl) (by intro n;first|(simp (disch:=omega) only[go_sem];rfl)|rfl) ?_;intro n hn)|(refine st_pureE (by first|(simp (disch:=omega) only[go_sem];rfl)|rfl) rfl (c35 f p m hf hp hm) (by first|(simp only[go_sem];rfl)|rfl) (by intro n;first|(simp (disch:=omega) only[go_sem];rfl)|rfl) ?_;intro n hn)|(refine st_pureE (by first|(simp (disch:=omega) only[go_sem];rfl)|rfl) rfl (c32 f p m hf) (by first|(simp only[go_sem];rfl)|rfl) (by intro n;first|(simp (disch:=omega) only[go_sem];rfl)|rfl) ?_;intro n hn)|refine st_gT rfl rfl rfl ?_|refine st_gF rfl rfl rfl ?_|refine st_dgT rfl rfl rfl rfl ?_|refine st_dgF rfl rfl rfl ?_|(refine st_gS rfl rfl ?_ ?_ <;> intro hg <;> (try simp only[dcT,dcF,bnT,bnF] at hg))|(refine st_dgS rfl rfl ?_ ?_ <;> intro hg <;> (try simp only[dcT,dcF,bnT,bnF] at hg))|refine st_nil ?_|refine st_dnil ?_|refine st_tN ?_|refine st_seq ?_|refine st_skip ?_|refine st_ret ?_|refine st_tE ?_|refine st_tR ?_)
 all_goals
  simp (disch:=omega) only[AEnd,Tryd.results65,aresK,fin,go_sem,implies_true,true_and,and_true,List.reverse_cons,List.reverse_nil]
  all_goals simp [brP, *]
theorem c65b (f:Fl) (p m:Int) (x:Hu) (hf:FlOk f) (hp:0≤p∧p≤3000) (hm:0≤m∧m≤100000) (hx:HuOk x):Pure Tryd.prog 65 [.int .i64 1,.iptr (Tk.av f p m).cells 0,.iptr x.row 0] (fun v=>v=.bool (decide (brP wH f p m x))):=by
 have s1:=mul_bd hx.b (A:=3000) (x:=f.rear - f.front) (by have:=base_bd hf;omega)
 intro h
 refine ACalls.forget (ACalls.of tab mixed Tryd.call65 Tryd.func65 rfl (fi:=⟨29,[],[],none,[(1,[0,1,0,7,0,16,63,127,255,511,255,2047,255,5119,255,29695,65535,255,131327,255,537599,1979391,4194303,8388607,16777215],[(0,true),(2,false),(4,false),(5,true),(1,false),(3,false),(6,false),(7,false),(8,true),(10,false),(12,true),(14,false),(17,false),(18,true),(19,true),(9,false),(11,false),(13,false),(15,false),(16,false),(20,false),(21,false),(22,false),(23,false),(24,false)])]⟩) rfl rfl (Nat.le_of_ble_eq_true rfl) (by decide) ?_)
 unfold startA
 simp only[go_sem]
 repeat' (first|refine st_seq_reg rfl (by first|(simp only[go_sem];rfl)|rfl) (by first|(simp only[go_sem];rfl)|rfl) ?_|refine st_reg rfl (by first|(simp only[go_sem];rfl)|rfl) (by first|(simp only[go_sem];rfl)|rfl) ?_|refine st_seq_draw rfl (by first|(simp only[go_sem];rfl)|rfl) (by first|(simp only[go_sem];rfl)|rfl) ?_|refine st_draw rfl (by first|(simp only[go_sem];rfl)|rfl) (by first|(simp only[go_sem];rfl)|rfl) ?_|refine st_op ?_|refine st_det rfl (by simp (disch:=omega) only[go_sem,wr_i64];rfl) ?_|refine st_dop rfl ?_|(refine st_pureE (by first|(simp (disch:=omega) only[go_sem];rfl)|rfl) rfl (c22 f p m hf hp hm) (by first|(simp only[go_sem];rfl)|rfl) (by intro n;first|(simp (disch:=omega) only[go_sem];rfl)|rfl) ?_;intro n hn)|(refine st_pureE (by first|(simp (disch:=omega) only[go_sem];rfl)|rfl) rfl (c34 f p m hf hp hm) (by first|(simp only[go_sem];rfl)|rfl) (by intro n;first|(simp (disch:=omega) only[go_sem];rfl)|rfl) ?_;intro n hn)|(refine st_pureE (by first|(simp (disch:=omega) only[go_sem];rfl)|rfl) rfl (c35 f p m hf hp hm) (by first|(simp only[go_sem];rfl)|rfl) (by intro n;first|(simp (disch:=omega) only[go_sem];rfl)|rfl) ?_;intro n hn)|(refine st_pureE (by first|(simp (disch:=omega) only[go_sem];rfl)|rfl) rfl (c32 f p m hf) (by first|(simp only[go_sem];rfl)|rfl) (by intro n;first|(simp (disch:=omega) only[go_sem];rfl)|rfl) ?_;intro n hn)|refine st_gT rfl rfl rfl ?_|refine st_gF rfl rfl rfl ?_|refine st_dgT rfl rfl rfl rfl ?_|refine st_dgF rfl rfl rfl ?_|(refine st_gS rfl rfl ?_ ?_ <;> intro hg <;> (try simp only[dcT,dcF,bnT,bnF] at hg))|(refine st_dgS rfl rfl ?_ ?_ <;> intro hg <;> (try simp only[dcT,dcF,bnT,bnF] at hg))|refine st_nil ?_|refine st_dnil ?_|refine st_tN ?_|refine st_seq ?_|refine st_skip ?_|refine st_ret ?_|refine st_tE ?_|refine st_tR ?_)
 all_goals
  simp (disch:=omega) only[AEnd,Tryd.results65,aresK,fin,go_sem,implies_true,true_and,and_true,List.reverse_cons,List.reverse_nil]
  all_goals simp [brP, *]
def pV (f:Fl) (p m:Int) (x:Hu):Int :=
 if x.kind=1 then (if bendP f x then 1 else 2)
 else if x.kind=2 then (if th f.high f.loads≤x.a then 1 else if tl f.high f.loads≤x.a then 3 else 2)
 else (if brP wH f p m x then 1 else if brP wL f p m x then 3 else 2)
theorem c57 (f:Fl) (p m:Int) (x:Hu) (hf:FlOk f) (hp:0≤p∧p≤3000) (hm:0≤m∧m≤100000) (hx:HuOk x):Pure Tryd.prog 57 [Tk.av f p m,x.av] (fun v=>v=.int .i64 (pV f p m x)):=by
 have ha:=hx.a;have hb:=hx.b;have hc:=hx.bend
 intro h
 refine ACalls.forget (ACalls.of tab mixed Tryd.call57 Tryd.func57 rfl (fi:=⟨39,[7],[2,3],none,[(10,[0,1,0,4,15,0,32,0,128,480,31,2047],[(0,false),(1,true),(2,false),(3,true),(4,false),(5,false),(6,true),(7,false),(8,true),(9,false),(10,false),(11,false)])]⟩) rfl rfl (Nat.le_of_ble_eq_true rfl) (by decide) ?_)
 unfold startA
 simp only[go_sem]
 repeat' (first|refine st_seq_reg rfl (by first|(simp only[go_sem];rfl)|rfl) (by first|(simp only[go_sem];rfl)|rfl) ?_|refine st_reg rfl (by first|(simp only[go_sem];rfl)|rfl) (by first|(simp only[go_sem];rfl)|rfl) ?_|refine st_seq_draw rfl (by first|(simp only[go_sem];rfl)|rfl) (by first|(simp only[go_sem];rfl)|rfl) ?_|refine st_draw rfl (by first|(simp only[go_sem];rfl)|rfl) (by first|(simp only[go_sem];rfl)|rfl) ?_|refine st_op ?_|refine st_det rfl (by simp (disch:=omega) only[go_sem,wr_i64];rfl) ?_|refine st_dop rfl ?_|refine st_loc rfl (by simp (disch:=omega) only[go_sem,wr_i64];rfl) ?_|refine st_heap rfl (by simp (disch:=omega) only[go_sem,wr_i64];rfl) ?_|refine st_store (by simp (disch:=omega) only[go_sem,wr_i64];rfl) ?_|(refine st_pureE (by first|(simp (disch:=omega) only[go_sem];rfl)|rfl) rfl (c64 f p m x hf (by omega) (by omega)) (by first|(simp only[go_sem];rfl)|rfl) (by intro n;first|(simp (disch:=omega) only[go_sem];rfl)|rfl) ?_;intro n hn)|(refine st_pureE (by first|(simp (disch:=omega) only[go_sem];rfl)|rfl) rfl (c23 f p m hf) (by first|(simp only[go_sem];rfl)|rfl) (by intro n;first|(simp (disch:=omega) only[go_sem];rfl)|rfl) ?_;intro n hn)|(refine st_pureV (by first|(simp only[go_sem];rfl)|rfl) (by first|(simp (disch:=omega) only[go_sem];rfl)|rfl) rfl (c65a f p m x hf hp hm hx) (by first|(simp only[go_sem];rfl)|rfl) (by intro n;first|(simp (disch:=omega) only[go_sem];rfl)|rfl) ?_;intro v n hv hn;subst hv)|(refine st_pureV (by first|(simp only[go_sem];rfl)|rfl) (by first|(simp (disch:=omega) only[go_sem];rfl)|rfl) rfl (c65b f p m x hf hp hm hx) (by first|(simp only[go_sem];rfl)|rfl) (by intro n;first|(simp (disch:=omega) only[go_sem];rfl)|rfl) ?_;intro v n hv hn;subst hv)|(refine st_pureE (by first|(simp (disch:=omega) only[go_sem];rfl)|rfl) rfl (c47 _ _) (by first|(simp only[go_sem];rfl)|rfl) (by intro n;first|(simp (disch:=omega) only[go_sem];rfl)|rfl) ?_;intro n hn)|refine st_condT rfl ?_|refine st_condF rfl ?_|(refine st_condS rfl ?_ ?_ <;> intro hg <;> (try simp only[dcT,dcF,bnT,bnF] at hg))|refine st_nil ?_|refine st_dnil ?_|refine st_tN ?_|refine st_seq ?_|refine st_block ?_|refine st_skip ?_|refine st_exit ?_|refine st_ret ?_|refine st_tE ?_|refine st_tR ?_|refine st_bN ?_|refine st_bR ?_|refine st_bH ?_|refine st_bM rfl ?_)
 all_goals
  simp (disch:=omega) only[AEnd,Tryd.results57,aresK,fin,go_sem,implies_true,true_and,and_true,List.reverse_cons,List.reverse_nil]
  all_goals simp [pV, *]
end Go.Proofs.YthpkmcjiobnpgaaDoor
