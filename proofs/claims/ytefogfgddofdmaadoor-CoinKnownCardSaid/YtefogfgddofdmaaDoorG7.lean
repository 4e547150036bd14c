/- Contracts of functions that the claim reaches: what each call gives, told in our own logic. Conditions: those of each theorem. -/
import Derived.Test.YtefogfgddofdmaaDoorKR
open List (length_map)
set_option linter.all false
set_option linter.unusedSimpArgs false
set_option linter.unusedVariables false
namespace Go.Proofs.YtefogfgddofdmaaDoor
open Go.Av Go.Txt Go.Lib
attribute [local irreducible] thenA blockA awp awpOps awpD awp1
attribute [local go_sem_proc] Nat.reduceAdd Nat.reduceMul Nat.reduceEqDiff Nat.reduceBEq Nat.reduceLeDiff
attribute [local go_sem_proc ↓] reduceIte
attribute [local go_sem] if_yes if_no
set_option maxHeartbeats 8000000
set_option maxRecDepth 20000
theorem c18 (l:Lg):PureG gT Tryd.prog 18 [l.av] (fun v=>v=wrV l):=by
 intro h hgl
 refine ACalls.forgetM ?_
 refine ACalls.ofS tab Tryd.call18 Tryd.func18 rfl (fi:=⟨56,[7,9],[1,47,53],none,[]⟩) rfl rfl (Nat.le_of_ble_eq_true rfl) ?_
 unfold startA
 try simp only[go_sem]
 refine asem_seq (fi:=⟨56,[7,9],[1,47,53],none,[]⟩) tab mixed (by decide) ?_
 repeat' (first|refine st_seq_reg rfl (by first|(simp only[go_sem];rfl)|rfl) (by first|(simp only[go_sem];rfl)|rfl) ?_|refine st_reg rfl (by first|(simp only[go_sem];rfl)|rfl) (by first|(simp only[go_sem];rfl)|rfl) ?_|refine st_op ?_|refine st_det rfl (by simp (disch:=omega) only[go_sem,wr_i64];rfl) ?_|refine st_loc rfl (by simp (disch:=omega) only[go_sem,wr_i64];rfl) ?_|refine st_heap rfl (by simp (disch:=omega) only[go_sem,wr_i64];rfl) ?_|refine st_store (by simp (disch:=omega) only[go_sem,wr_i64];rfl) ?_|refine st_append (by simp (disch:=omega) only[go_sem,wr_i64];rfl) ?_|refine st_condT rfl ?_|refine st_condF rfl ?_|(refine st_condS rfl ?_ ?_ <;> intro hg <;> (try simp only[dcT,dcF,bnT,bnF] at hg))|refine st_nil ?_|refine st_tN ?_|refine st_seq ?_|refine st_block ?_|refine st_skip ?_|refine st_exit ?_|refine st_ret ?_|refine st_tE ?_|refine st_tR ?_|refine st_bN ?_|refine st_bR ?_|refine st_bH ?_|refine st_bM rfl ?_)
 refine asem_seq (fi:=⟨56,[7,9],[1,47,53],none,[]⟩) tab mixed (by decide) ?_
 repeat' (first|refine st_seq_reg rfl (by first|(simp only[go_sem];rfl)|rfl) (by first|(simp only[go_sem];rfl)|rfl) ?_|refine st_reg rfl (by first|(simp only[go_sem];rfl)|rfl) (by first|(simp only[go_sem];rfl)|rfl) ?_|refine st_op ?_|refine st_det rfl (by simp (disch:=omega) only[go_sem,wr_i64];rfl) ?_|refine st_loc rfl (by simp (disch:=omega) only[go_sem,wr_i64];rfl) ?_|refine st_heap rfl (by simp (disch:=omega) only[go_sem,wr_i64];rfl) ?_|refine st_store (by simp (disch:=omega) only[go_sem,wr_i64];rfl) ?_|refine st_append (by simp (disch:=omega) only[go_sem,wr_i64];rfl) ?_|(refine st_pureE (by first|(simp (disch:=omega) only[go_sem];rfl)|rfl) rfl (c6 l) (by first|(simp only[go_sem];rfl)|rfl) (by intro n;first|(simp (disch:=omega) only[go_sem];rfl)|rfl) ?_;intro n hn)|refine st_condT rfl ?_|refine st_condF rfl ?_|(refine st_condS rfl ?_ ?_ <;> intro hg <;> (try simp only[dcT,dcF,bnT,bnF] at hg))|refine st_nil ?_|refine st_tN ?_|refine st_seq ?_|refine st_block ?_|refine st_skip ?_|refine st_exit ?_|refine st_ret ?_|refine st_tE ?_|refine st_tR ?_|refine st_bN ?_|refine st_bR ?_|refine st_bH ?_|refine st_bM rfl ?_)
 ·simp (disch:=omega) only[AEnd,Tryd.results18,aresK,fin,go_sem,implies_true,true_and,and_true,List.reverse_cons,List.reverse_nil]
  exact ⟨fun _ _ h=>h,by unfold wrV;rw [if_neg hg]⟩
 refine asem_bdNew tab (by decide) rfl ?_
 intro lb hlb
 have hE:chkE l=0:=by omega
 have hO:=ledgerOk hE
 have hfn:=hO.fn
 have hbn:=hO.bn
 obtain ⟨g0,hG,hB0,ha0,hgl0,hc0⟩:∃ g0,g0=(((h.tick (n+1)).lpSet lb (some (orec #[.pointer none,.slice none 0 0] 84))))∧BdZ h g0 lb []∧g0.at_=h.at_∧g0.gl=gT∧g0.clk=n+1:=⟨_,rfl,Bd.new (h:=h) hlb,rfl,hgl,rfl⟩
 rw [← hG]
 clear hG hlb
 refine asem_seq (fi:=⟨56,[7,9],[1,47,53],none,[]⟩) tab mixed (by decide) ?_
 repeat' (first|refine st_seq_reg rfl (by first|(simp only[go_sem,Lm];rfl)|rfl) (by first|(simp only[go_sem,Lm];rfl)|rfl) ?_|refine st_reg rfl (by first|(simp only[go_sem,Lm];rfl)|rfl) (by first|(simp only[go_sem,Lm];rfl)|rfl) ?_|refine st_op ?_|refine st_det rfl (by simp (disch:=omega) only[go_sem,wr_i64,Lm];rfl) ?_|refine st_loc rfl (by simp (disch:=omega) only[go_sem,wr_i64,Lm];rfl) ?_|refine st_heap rfl (by simp (disch:=omega) only[go_sem,wr_i64,Lm];rfl) ?_|refine st_store (by simp (disch:=omega) only[go_sem,wr_i64,Lm];rfl) ?_|refine st_append (by simp (disch:=omega) only[go_sem,wr_i64,Lm];rfl) ?_|refine st_condT rfl ?_|refine st_condF rfl ?_|(refine st_condS rfl ?_ ?_ <;> intro hg <;> (try simp only[dcT,dcF,bnT,bnF] at hg))|refine st_nil ?_|refine st_tN ?_|refine st_seq ?_|refine st_block ?_|refine st_skip ?_|refine st_exit ?_|refine st_ret ?_|refine st_tE ?_|refine st_tR ?_|refine st_bN ?_|refine st_bR ?_|refine st_bH ?_|refine st_bM rfl ?_)
 have ha0':∀ b':Bid,b'.1 < h.clk→g0.at_ b'=h.at_ b':=fun b' _=>congrFun ha0 b'
 refine st_loopH (α:=Nat × AH) tab mixed [] [] (by repeat (first|exact trivial|refine ⟨rfl,?_⟩)) [] [] (by repeat (first|exact trivial|refine ⟨rfl,?_⟩)) (fun a=>[(18,.int .i64 (a.1:Nat))]) [(1,_),(2,_),(3,_),(16,_),(17,_),(5,_)] (fun _=>[]) [] (fun a=>a.2) (fun a=>a.1≤l.fs.length∧BdZ h a.2 lb ((l.fs.take a.1).flatMap fdT)∧(∀ b':Bid,b'.1 < h.clk→a.2.at_ b'=h.at_ b')∧h.clk≤a.2.clk∧a.2.gl=gT) (fun a=>l.fs.length - a.1) (by decide) (0,_) (by exact ⟨Nat.zero_le _,hB0,ha0',by show h.clk≤_;try simp only[go_sem];omega,hgl0⟩) (by (try simp only[go_sem]);repeat' (first|exact trivial|refine And.intro ?_ ?_|rfl|(simp (disch:=omega) only[go_sem,if_yes,if_no,if_no];rfl)|(simp (disch:=omega) only[go_sem,if_yes,if_no,if_no]))) (by (try simp only[go_sem]);repeat' (first|exact trivial|refine And.intro ?_ ?_|rfl|(simp (disch:=omega) only[go_sem,if_yes,if_no,if_no];rfl)|(simp (disch:=omega) only[go_sem,if_yes,if_no,if_no]))) (HOld.refl _) ?_
 rintro ⟨i,g2⟩ c2 ⟨hi,hB2,ha2,hk2,hg2⟩ hc2
 dsimp only at hi hB2 ha2 hk2 hg2 hc2
 simp only[go_sem]
 by_cases hil:i < l.fs.length
 case pos =>
  have hfl:((l.fs.take i).flatMap fdT).length≤130 * 8:=Nat.le_trans (flat_len (fun x hx=>fdT_len (hO.f x (List.mem_of_mem_take hx)))) (Nat.mul_le_mul_left _ (by rw [List.length_take];omega))
  have hx:=hO.f _ (fd_mem hil)
  have hxs:=fd_sm hx
  have hu:=hx.many
  repeat' (first|refine st_seq_reg rfl (by first|(simp only[go_sem,Lm,big,List.length_cons,List.length_nil];rfl)|rfl) (by first|(simp only[go_sem,Lm,big,List.length_cons,List.length_nil];rfl)|rfl) ?_|refine st_reg rfl (by first|(simp only[go_sem,Lm,big,List.length_cons,List.length_nil];rfl)|rfl) (by first|(simp only[go_sem,Lm,big,List.length_cons,List.length_nil];rfl)|rfl) ?_|refine st_op ?_|refine st_det rfl (by simp (disch:=omega) only[go_sem,wr_i64,Lm,big,List.length_cons,List.length_nil];rfl) ?_|refine st_loc rfl (by simp (disch:=omega) only[go_sem,wr_i64,Lm,big,List.length_cons,List.length_nil];rfl) ?_|refine st_heap rfl (by simp (disch:=omega) only[go_sem,wr_i64,Lm,big,List.length_cons,List.length_nil];rfl) ?_|refine st_store (by simp (disch:=omega) only[go_sem,wr_i64,Lm,big,List.length_cons,List.length_nil];rfl) ?_|refine st_append (by simp (disch:=omega) only[go_sem,wr_i64,Lm,big,List.length_cons,List.length_nil];rfl) ?_|refine st_condT rfl ?_|refine st_condF rfl ?_|(refine st_condS rfl ?_ ?_ <;> intro hg <;> (try simp only[dcT,dcF,bnT,bnF] at hg))|refine st_nil ?_|refine st_tN ?_|refine st_seq ?_|refine st_block ?_|refine st_skip ?_|refine st_exit ?_|refine st_ret ?_|refine st_tE ?_|refine st_tR ?_|refine st_bN ?_|refine st_bR ?_|refine st_bH ?_|refine st_bM rfl ?_)
  all_goals try (exfalso;omega)
  have hfz:∀ b:Bid,[AV.gptr lb 0,.str wFund,.lst 1 ((fdN (fd l.fs i)).map iv)]=frzs b ⟨1,(fdN (fd l.fs i)).map iv⟩ [AV.gptr lb 0,.str wFund,.slc b 1 0 (3+(fd l.fs i).uses.length)]:=fun b=>by
   have e:3+(fd l.fs i).uses.length=((fdN (fd l.fs i)).map iv).length:=by simp [fdN];omega
   simp only[frzs,frz]
   rw [if_pos ⟨trivial,by rw [e];omega⟩,List.drop_zero,e,List.take_length]
  refine st_callf rfl rfl (ACalls.frzIn (b:=(c2+1+1,31)) (k:=⟨1,(fdN (fd l.fs i)).map iv⟩) (put_same _ _ _) (hfz _) (c37 wFund (fdN (fd l.fs i)) lb _ h _ (by exact hg2) (by exact hB2) (hxs.1.ok (by omega)) (by omega) (by decide))) ?_
  rintro v' h2 ⟨rfl,hB3,ha3,hk3,hg3⟩
  repeat' (first|refine st_seq_reg rfl (by first|(simp only[go_sem];rfl)|rfl) (by first|(simp only[go_sem];rfl)|rfl) ?_|refine st_reg rfl (by first|(simp only[go_sem];rfl)|rfl) (by first|(simp only[go_sem];rfl)|rfl) ?_|refine st_op ?_|refine st_det rfl (by simp (disch:=omega) only[go_sem,wr_i64];rfl) ?_|refine st_loc rfl (by simp (disch:=omega) only[go_sem,wr_i64];rfl) ?_|refine st_heap rfl (by simp (disch:=omega) only[go_sem,wr_i64];rfl) ?_|refine st_store (by simp (disch:=omega) only[go_sem,wr_i64];rfl) ?_|refine st_append (by simp (disch:=omega) only[go_sem,wr_i64];rfl) ?_|refine st_condT rfl ?_|refine st_condF rfl ?_|(refine st_condS rfl ?_ ?_ <;> intro hg <;> (try simp only[dcT,dcF,bnT,bnF] at hg))|refine st_nil ?_|refine st_tN ?_|refine st_seq ?_|refine st_block ?_|refine st_skip ?_|refine st_exit ?_|refine st_ret ?_|refine st_tE ?_|refine st_tR ?_|refine st_bN ?_|refine st_bR ?_|refine st_bH ?_|refine st_bM rfl ?_)
  have hB4:BdZ h h2 lb ((l.fs.take (i+1)).flatMap fdT):=by rw [flat_take (d:=⟨0,0,0,[]⟩) hil];exact hB3
  have hk4:h.clk≤h2.clk:=Nat.le_trans (Nat.le_trans hk2 (Nat.le_trans hc2 (by simp only[go_sem];omega))) hk3
  have ha4:∀ b':Bid,b'.1 < h.clk→h2.at_ b'=h.at_ b':=fun b' hb'=>by
   have hne:∀ d,b' ≠ (c2+1+1,d):=fun d e=>by rw [e] at hb';dsimp only at hb';omega
   rw [ha3,put_ne _ _ (hne _),put_ne _ _ (hne _),put_ne _ _ (hne _)]
   exact ha2 b' hb'
  refine ⟨(i+1,_),(by exact ⟨by show i+1≤l.fs.length;omega,hB4,ha4,by show h.clk≤_;try simp only[go_sem];omega,hg3.trans hg2⟩),(by show l.fs.length - (i+1) < l.fs.length - i;omega),(by repeat' (first|exact trivial|refine And.intro ?_ ?_|rfl|(simp (disch:=omega) only[go_sem,if_yes,if_no,if_no];rfl)|(simp (disch:=omega) only[go_sem,if_yes,if_no,if_no]))),(by repeat' (first|exact trivial|refine And.intro ?_ ?_|rfl|(simp (disch:=omega) only[go_sem,if_yes,if_no,if_no];rfl)|(simp (disch:=omega) only[go_sem,if_yes,if_no,if_no]))),rfl,HOld.refl _⟩
 obtain rfl:i=l.fs.length:=by omega
 rw [List.take_length] at hB2
 have hfw:(l.fs.flatMap fdT).length≤130 * 8:=Nat.le_trans (flat_len (fun x hx=>fdT_len (hO.f x hx))) (Nat.mul_le_mul_left _ hfn)
 repeat' (first|refine st_seq_reg rfl (by first|(simp only[go_sem,Lm];rfl)|rfl) (by first|(simp only[go_sem,Lm];rfl)|rfl) ?_|refine st_reg rfl (by first|(simp only[go_sem,Lm];rfl)|rfl) (by first|(simp only[go_sem,Lm];rfl)|rfl) ?_|refine st_op ?_|refine st_det rfl (by simp (disch:=omega) only[go_sem,wr_i64,Lm];rfl) ?_|refine st_loc rfl (by simp (disch:=omega) only[go_sem,wr_i64,Lm];rfl) ?_|refine st_heap rfl (by simp (disch:=omega) only[go_sem,wr_i64,Lm];rfl) ?_|refine st_store (by simp (disch:=omega) only[go_sem,wr_i64,Lm];rfl) ?_|refine st_append (by simp (disch:=omega) only[go_sem,wr_i64,Lm];rfl) ?_|refine st_condT rfl ?_|refine st_condF rfl ?_|(refine st_condS rfl ?_ ?_ <;> intro hg <;> (try simp only[dcT,dcF,bnT,bnF] at hg))|refine st_nil ?_|refine st_tN ?_|refine st_seq ?_|refine st_block ?_|refine st_skip ?_|refine st_exit ?_|refine st_ret ?_|refine st_tE ?_|refine st_tR ?_|refine st_bN ?_|refine st_bR ?_|refine st_bH ?_|refine st_bM rfl ?_)
 all_goals try (exfalso;omega)
 obtain ⟨b1,hb1⟩:∃ b1,b1=l.fs.flatMap fdT:=⟨_,rfl⟩
 have hl1:b1.length≤1040:=by rw [hb1];omega
 rw [← hb1] at hB2
 refine asem_seq (fi:=⟨56,[7,9],[1,47,53],none,[]⟩) tab mixed (by decide) ?_
 repeat' (first|refine st_seq_reg rfl (by first|(simp only[go_sem,Lm];rfl)|rfl) (by first|(simp only[go_sem,Lm];rfl)|rfl) ?_|refine st_reg rfl (by first|(simp only[go_sem,Lm];rfl)|rfl) (by first|(simp only[go_sem,Lm];rfl)|rfl) ?_|refine st_op ?_|refine st_det rfl (by simp (disch:=omega) only[go_sem,wr_i64,Lm];rfl) ?_|refine st_loc rfl (by simp (disch:=omega) only[go_sem,wr_i64,Lm];rfl) ?_|refine st_heap rfl (by simp (disch:=omega) only[go_sem,wr_i64,Lm];rfl) ?_|refine st_store (by simp (disch:=omega) only[go_sem,wr_i64,Lm];rfl) ?_|refine st_append (by simp (disch:=omega) only[go_sem,wr_i64,Lm];rfl) ?_|refine st_condT rfl ?_|refine st_condF rfl ?_|(refine st_condS rfl ?_ ?_ <;> intro hg <;> (try simp only[dcT,dcF,bnT,bnF] at hg))|refine st_nil ?_|refine st_tN ?_|refine st_seq ?_|refine st_block ?_|refine st_skip ?_|refine st_exit ?_|refine st_ret ?_|refine st_tE ?_|refine st_tR ?_|refine st_bN ?_|refine st_bR ?_|refine st_bH ?_|refine st_bM rfl ?_)
 refine st_loopH (α:=Nat × AH) tab mixed [] [] (by repeat (first|exact trivial|refine ⟨rfl,?_⟩)) [] [] (by repeat (first|exact trivial|refine ⟨rfl,?_⟩)) (fun a=>[(37,.int .i64 (a.1:Nat))]) [(1,_),(2,_),(3,_),(35,_),(36,_),(5,_)] (fun _=>[]) [] (fun a=>a.2) (fun a=>a.1≤l.bs.length∧BdZ h a.2 lb (b1 ++ (l.bs.take a.1).flatMap blT)∧(∀ b':Bid,b'.1 < h.clk→a.2.at_ b'=h.at_ b')∧h.clk≤a.2.clk∧a.2.gl=gT) (fun a=>l.bs.length - a.1) (by decide) (0,_) (by exact ⟨Nat.zero_le _,by show BdZ h g2 lb _;simpa using hB2,ha2,by show h.clk≤_;try simp only[go_sem];omega,hg2⟩) (by (try simp only[go_sem]);repeat' (first|exact trivial|refine And.intro ?_ ?_|rfl|(simp (disch:=omega) only[go_sem,if_yes,if_no,if_no];rfl)|(simp (disch:=omega) only[go_sem,if_yes,if_no,if_no]))) (by (try simp only[go_sem]);repeat' (first|exact trivial|refine And.intro ?_ ?_|rfl|(simp (disch:=omega) only[go_sem,if_yes,if_no,if_no];rfl)|(simp (disch:=omega) only[go_sem,if_yes,if_no,if_no]))) (HOld.refl _) ?_
 rintro ⟨j,g3⟩ c3 ⟨hj,hB5,ha5,hk5,hg5⟩ hc3
 dsimp only at hj hB5 ha5 hk5 hg5 hc3
 simp only[go_sem]
 by_cases hjs:j < l.bs.length
 case pos =>
  have hfl:((l.bs.take j).flatMap blT).length≤40 * 8:=Nat.le_trans (flat_len (fun x hx=>blT_len (hO.b x (List.mem_of_mem_take hx)))) (Nat.mul_le_mul_left _ (by rw [List.length_take];omega))
  have hx:=bl_sm (hO.b _ (bl_mem hjs))
  repeat' (first|refine st_seq_reg rfl (by first|(simp only[go_sem,Lm];rfl)|rfl) (by first|(simp only[go_sem,Lm];rfl)|rfl) ?_|refine st_reg rfl (by first|(simp only[go_sem,Lm];rfl)|rfl) (by first|(simp only[go_sem,Lm];rfl)|rfl) ?_|refine st_op ?_|refine st_det rfl (by simp (disch:=omega) only[go_sem,wr_i64,Lm];rfl) ?_|refine st_loc rfl (by simp (disch:=omega) only[go_sem,wr_i64,Lm];rfl) ?_|refine st_heap rfl (by simp (disch:=omega) only[go_sem,wr_i64,Lm];rfl) ?_|refine st_store (by simp (disch:=omega) only[go_sem,wr_i64,Lm];rfl) ?_|refine st_append (by simp (disch:=omega) only[go_sem,wr_i64,Lm];rfl) ?_|(refine st_callf rfl rfl (c37 wBill [(bl l.bs j).day,(bl l.bs j).use,(bl l.bs j).amt] lb _ h _ (by exact hg5) (by exact hB5) (hx.ok (by simp [blN])) (by rw [List.length_append];omega) (by decide)) ?_;rintro v' h2 ⟨rfl,hB3,ha3,hk3,hg3⟩)|refine st_condT rfl ?_|refine st_condF rfl ?_|(refine st_condS rfl ?_ ?_ <;> intro hg <;> (try simp only[dcT,dcF,bnT,bnF] at hg))|refine st_nil ?_|refine st_tN ?_|refine st_seq ?_|refine st_block ?_|refine st_skip ?_|refine st_exit ?_|refine st_ret ?_|refine st_tE ?_|refine st_tR ?_|refine st_bN ?_|refine st_bR ?_|refine st_bH ?_|refine st_bM rfl ?_)
  all_goals try (exfalso;omega)
  have hB4:BdZ h h2 lb (b1 ++ (l.bs.take (j+1)).flatMap blT):=by rw [flat_take (d:=⟨0,0,0⟩) hjs,← List.append_assoc];exact hB3
  have hk4:h.clk≤h2.clk:=Nat.le_trans (Nat.le_trans hk5 (Nat.le_trans hc3 (by simp only[go_sem];omega))) hk3
  refine ⟨(j+1,_),(by exact ⟨by show j+1≤l.bs.length;omega,hB4,(fun b' hb'=>(congrFun ha3 b').trans (ha5 b' hb')),by show h.clk≤_;try simp only[go_sem];omega,hg3.trans hg5⟩),(by show l.bs.length - (j+1) < l.bs.length - j;omega),(by repeat' (first|exact trivial|refine And.intro ?_ ?_|rfl|(simp (disch:=omega) only[go_sem,if_yes,if_no,if_no];rfl)|(simp (disch:=omega) only[go_sem,if_yes,if_no,if_no]))),(by repeat' (first|exact trivial|refine And.intro ?_ ?_|rfl|(simp (disch:=omega) only[go_sem,if_yes,if_no,if_no];rfl)|(simp (disch:=omega) only[go_sem,if_yes,if_no,if_no]))),rfl,HOld.refl _⟩
 obtain rfl:j=l.bs.length:=by omega
 rw [List.take_length] at hB5
 have hfj:(l.bs.flatMap blT).length≤40 * 8:=Nat.le_trans (flat_len (fun x hx=>blT_len (hO.b x hx))) (Nat.mul_le_mul_left _ hbn)
 repeat' (first|refine st_seq_reg rfl (by first|(simp only[go_sem,Lm];rfl)|rfl) (by first|(simp only[go_sem,Lm];rfl)|rfl) ?_|refine st_reg rfl (by first|(simp only[go_sem,Lm];rfl)|rfl) (by first|(simp only[go_sem,Lm];rfl)|rfl) ?_|refine st_op ?_|refine st_det rfl (by simp (disch:=omega) only[go_sem,wr_i64,Lm];rfl) ?_|refine st_loc rfl (by simp (disch:=omega) only[go_sem,wr_i64,Lm];rfl) ?_|refine st_heap rfl (by simp (disch:=omega) only[go_sem,wr_i64,Lm];rfl) ?_|refine st_store (by simp (disch:=omega) only[go_sem,wr_i64,Lm];rfl) ?_|refine st_append (by simp (disch:=omega) only[go_sem,wr_i64,Lm];rfl) ?_|refine st_condT rfl ?_|refine st_condF rfl ?_|(refine st_condS rfl ?_ ?_ <;> intro hg <;> (try simp only[dcT,dcF,bnT,bnF] at hg))|refine st_nil ?_|refine st_tN ?_|refine st_seq ?_|refine st_block ?_|refine st_skip ?_|refine st_exit ?_|refine st_ret ?_|refine st_tE ?_|refine st_tR ?_|refine st_bN ?_|refine st_bR ?_|refine st_bH ?_|refine st_bM rfl ?_)
 all_goals try (exfalso;omega)
 refine asem_seq (fi:=⟨56,[7,9],[1,47,53],none,[]⟩) tab mixed (by decide) ?_
 repeat' (first|refine st_seq_reg rfl (by first|(simp only[go_sem,Lm];rfl)|rfl) (by first|(simp only[go_sem,Lm];rfl)|rfl) ?_|refine st_reg rfl (by first|(simp only[go_sem,Lm];rfl)|rfl) (by first|(simp only[go_sem,Lm];rfl)|rfl) ?_|refine st_op ?_|refine st_det rfl (by simp (disch:=omega) only[go_sem,wr_i64,Lm];rfl) ?_|refine st_loc rfl (by simp (disch:=omega) only[go_sem,wr_i64,Lm];rfl) ?_|refine st_heap rfl (by simp (disch:=omega) only[go_sem,wr_i64,Lm];rfl) ?_|refine st_store (by simp (disch:=omega) only[go_sem,wr_i64,Lm];rfl) ?_|refine st_append (by simp (disch:=omega) only[go_sem,wr_i64,Lm];rfl) ?_|(refine st_callf rfl rfl (c37 wEnd [(l.bs.length:Int)] lb _ h _ (by exact hg5) (by exact hB5) ((sm_len (n:=l.bs.length) (by omega)).ok (by simp)) (by rw [List.length_append];omega) (by decide)) ?_;rintro v' h2 ⟨rfl,hB3,ha3,hk3,hg3⟩)|refine st_condT rfl ?_|refine st_condF rfl ?_|(refine st_condS rfl ?_ ?_ <;> intro hg <;> (try simp only[dcT,dcF,bnT,bnF] at hg))|refine st_nil ?_|refine st_tN ?_|refine st_seq ?_|refine st_block ?_|refine st_skip ?_|refine st_exit ?_|refine st_ret ?_|refine st_tE ?_|refine st_tR ?_|refine st_bN ?_|refine st_bR ?_|refine st_bH ?_|refine st_bM rfl ?_)
 have eT:b1 ++ l.bs.flatMap blT ++ rowT wEnd [(l.bs.length:Int)]=bookT l:=by rw [hb1];rfl
 rw [eT] at hB3
 have hne:bookT l ≠ []:=by
  rw [← eT];unfold rowT;simp
 refine asem_seq (fi:=⟨56,[7,9],[1,47,53],none,[]⟩) tab mixed (by decide) ?_
 repeat' (first|refine st_seq_reg rfl (by first|(simp only[go_sem];rfl)|rfl) (by first|(simp only[go_sem];rfl)|rfl) ?_|refine st_reg rfl (by first|(simp only[go_sem];rfl)|rfl) (by first|(simp only[go_sem];rfl)|rfl) ?_|refine st_op ?_|refine st_det rfl (by simp (disch:=omega) only[go_sem,wr_i64];rfl) ?_|refine st_loc rfl (by simp (disch:=omega) only[go_sem,wr_i64];rfl) ?_|refine st_heap rfl (by simp (disch:=omega) only[go_sem,wr_i64];rfl) ?_|refine st_store (by simp (disch:=omega) only[go_sem,wr_i64];rfl) ?_|refine st_append (by simp (disch:=omega) only[go_sem,wr_i64];rfl) ?_|(refine st_callf rfl rfl (c38 (by exact hB3) hne) ?_;rintro v' h4 ⟨rfl,hlp,ha4,hk4,hg4⟩)|refine st_condT rfl ?_|refine st_condF rfl ?_|(refine st_condS rfl ?_ ?_ <;> intro hg <;> (try simp only[dcT,dcF,bnT,bnF] at hg))|refine st_nil ?_|refine st_tN ?_|refine st_seq ?_|refine st_block ?_|refine st_skip ?_|refine st_exit ?_|refine st_ret ?_|refine st_tE ?_|refine st_tR ?_|refine st_bN ?_|refine st_bR ?_|refine st_bH ?_|refine st_bM rfl ?_)
 refine asem_awp (fi:=⟨56,[7,9],[1,47,53],none,[]⟩) tab mixed (by decide) ?_
 repeat' (first|refine st_seq_reg rfl (by first|(simp only[go_sem];rfl)|rfl) (by first|(simp only[go_sem];rfl)|rfl) ?_|refine st_reg rfl (by first|(simp only[go_sem];rfl)|rfl) (by first|(simp only[go_sem];rfl)|rfl) ?_|refine st_op ?_|refine st_det rfl (by simp (disch:=omega) only[go_sem,wr_i64];rfl) ?_|refine st_loc rfl (by simp (disch:=omega) only[go_sem,wr_i64];rfl) ?_|refine st_heap rfl (by simp (disch:=omega) only[go_sem,wr_i64];rfl) ?_|refine st_store (by simp (disch:=omega) only[go_sem,wr_i64];rfl) ?_|refine st_append (by simp (disch:=omega) only[go_sem,wr_i64];rfl) ?_|refine st_condT rfl ?_|refine st_condF rfl ?_|(refine st_condS rfl ?_ ?_ <;> intro hg <;> (try simp only[dcT,dcF,bnT,bnF] at hg))|refine st_nil ?_|refine st_tN ?_|refine st_seq ?_|refine st_block ?_|refine st_skip ?_|refine st_exit ?_|refine st_ret ?_|refine st_tE ?_|refine st_tR ?_|refine st_bN ?_|refine st_bR ?_|refine st_bH ?_|refine st_bM rfl ?_)
 simp (disch:=omega) only[AEnd,Tryd.results18,aresK,fin,go_sem,implies_true,true_and,and_true,List.reverse_cons,List.reverse_nil]
 refine ⟨fun b hb=>?_,hlp,by unfold wrV;rw [if_pos hE]⟩
 rw [ha4]
 show h2.at_ b=_
 rw [ha3]
 exact ha5 b hb
end Go.Proofs.YtefogfgddofdmaaDoor

namespace Go.Proofs.YtefogfgddofdmaaDoor
open Go.Av
attribute [local irreducible] thenA blockA awp awpOps awpD awp1
attribute [local go_sem_proc] Nat.reduceAdd Nat.reduceMul Nat.reduceEqDiff Nat.reduceBEq Nat.reduceLeDiff
attribute [local go_sem_proc ↓] reduceIte
attribute [local go_sem] if_yes if_no
set_option maxHeartbeats 8000000
set_option maxRecDepth 20000
theorem ne_snd {a b:Nat × Nat} (h:a.2 ≠ b.2):¬ a=b:=fun e=>h (congrArg Prod.snd e)
def shortB (l:Lg) (s:Int):Bool:=decide (slackB l (amts l.fs) s < 0)
def setsL (l:Lg) (m:Nat):List Int:=walkL l.bs.length m 0 0
def prf (l:Lg):Option Int:=(wkN (setsL l) 1 l.bs.length).find? (shortB l)
def optV:Option Int→AV
 | none=>.tup [.int .i64 0,.bool false]
 | some s=>.tup [.int .i64 s,.bool true]
theorem amtsOk {l:Lg} (hl:LgOk l):RsOk (amts l.fs):=by
 refine ⟨amts_len _,fun i hi=>?_⟩
 rw [amts_get hi]
 by_cases h:i < l.fs.length
 ·exact (hl.f _ (fd_mem h)).amt
 ·simp [fd,List.getD_eq_getElem?_getD,List.getElem?_eq_none (Nat.le_of_not_lt h)]
theorem c22 (l:Lg) (hl:LgOk l):Pure Tryd.prog 22 [l.av] (fun v=>v=optV (prf l)):=by
 have hb:=hl.bn
 have hr:=amtsOk hl
 intro h
 refine ACalls.forget (ACalls.of tab mixed Tryd.call22 Tryd.func22 rfl (fi:=⟨28,[],[1],none,[]⟩) rfl rfl (Nat.le_of_ble_eq_true rfl) (by decide) ?_)
 unfold startA
 simp only[go_sem]
 repeat' (first|refine st_seq_reg rfl (by first|(simp only[go_sem,amts_len];rfl)|rfl) (by first|(simp only[go_sem,amts_len];rfl)|rfl) ?_|refine st_reg rfl (by first|(simp only[go_sem,amts_len];rfl)|rfl) (by first|(simp only[go_sem,amts_len];rfl)|rfl) ?_|refine st_op ?_|refine st_det rfl (by simp (disch:=omega) only[go_sem,wr_i64,amts_len];rfl) ?_|refine st_loc rfl (by simp (disch:=omega) only[go_sem,wr_i64,amts_len];rfl) ?_|refine st_heap rfl (by simp (disch:=omega) only[go_sem,wr_i64,amts_len];rfl) ?_|refine st_store (by simp (disch:=omega) only[go_sem,wr_i64,amts_len];rfl) ?_|(refine st_pureE (by first|(simp (disch:=omega) only[go_sem,amts_len];rfl)|rfl) rfl (c23 l hl.fn) (by first|(simp only[go_sem,amts_len];rfl)|rfl) (by intro n;first|(simp (disch:=omega) only[go_sem];rfl)|rfl) ?_;intro n hn)|refine st_condT rfl ?_|refine st_condF rfl ?_|(refine st_condS rfl ?_ ?_ <;> intro hg <;> (try simp only[dcT,dcF,bnT,bnF] at hg))|refine st_nil ?_|refine st_tN ?_|refine st_seq ?_|refine st_block ?_|refine st_skip ?_|refine st_exit ?_|refine st_ret ?_|refine st_tE ?_|refine st_tR ?_|refine st_bN ?_|refine st_bR ?_|refine st_bH ?_|refine st_bM rfl ?_|refine st_noN ?_|refine st_noR ?_|refine st_noE ?_|refine st_label ?_|refine st_scope tab mixed (by decide) ?_)
 have hne2:∀ b':Nat × Nat,b'.1 < h.clk→¬ b'=(h.clk,2):=fun b' hb' e=>by rw [e] at hb';exact absurd hb' (Nat.lt_irrefl _)
 have hne3:∀ b':Nat × Nat,b'.1 < h.clk→¬ b'=(h.clk,3):=fun b' hb' e=>by rw [e] at hb';exact absurd hb' (Nat.lt_irrefl _)
 have hne4:∀ b':Nat × Nat,b'.1 < h.clk→¬ b'=(h.clk+1,4):=fun b' hb' e=>by rw [e] at hb';exact absurd hb' (by show ¬ (h.clk+1 < h.clk);omega)
 have hn42:¬ ((h.clk+1,4):Nat × Nat)=(h.clk,2):=ne_snd (by simp)
 have hn43:¬ ((h.clk+1,4):Nat × Nat)=(h.clk,3):=ne_snd (by simp)
 have hn24:¬ ((h.clk,2):Nat × Nat)=(h.clk+1,4):=ne_snd (by simp)
 have hn34:¬ ((h.clk,3):Nat × Nat)=(h.clk+1,4):=ne_snd (by simp)
 have hn23:¬ ((h.clk,2):Nat × Nat)=(h.clk,3):=ne_snd (by simp)
 have hn32:¬ ((h.clk,3):Nat × Nat)=(h.clk,2):=ne_snd (by simp)
 let A:AH→Prop:=fun g=>(∀ b':Bid,b'.1 < h.clk→g.at_ b'=h.at_ b')∧h.clk+2≤g.clk
 let Z:AH→Prop:=fun g=>g.at_ (h.clk,2)=some ⟨1,[[.int .i64 0]]⟩∧g.at_ (h.clk,3)=some ⟨1,[[.bool false]]⟩∧g.at_ (h.clk+1,4)=some ⟨8,[(amts l.fs).map iA]⟩
 refine st_loopM (α:=Nat × AH) tab mixed [] [] (by repeat (first|exact trivial|refine ⟨rfl,?_⟩)) [] [] (by repeat (first|exact trivial|refine ⟨rfl,?_⟩)) (fun a=>[(5,.int .i64 ((a.1+1:Nat):Int))]) [(1,_),(2,_),(3,_),(4,_)] (fun _=>[]) [] (fun a=>a.2) (fun a=>a.1≤l.bs.length∧(wkN (setsL l) 1 a.1).find? (shortB l)=none∧A a.2∧Z a.2∧a.2.lp=h.lp) (fun a=>l.bs.length - a.1) (by decide) (0,((((h.tick (n+1)).put (h.clk,2) (some ⟨1,[[.int .i64 0]]⟩)).put (h.clk,3) (some ⟨1,[[.bool false]]⟩)).put (h.clk+1,4) (some ⟨8,[(amts l.fs).map iA ++ []]⟩))) ⟨Nat.zero_le _,rfl,⟨fun b' hb'=>by simp only[go_sem];rw [if_neg (hne4 b' hb'),if_neg (hne3 b' hb'),if_neg (hne2 b' hb')],by show h.clk+2≤n+1;omega⟩,⟨by simp only[go_sem,hn24,hn23,↓reduceIte],by simp only[go_sem,hn34,hn32,↓reduceIte],by simp only[go_sem,List.append_nil]⟩,rfl⟩ (by (try simp only[go_sem]);repeat' (first|exact trivial|refine And.intro ?_ ?_|rfl|(simp (disch:=omega) only[go_sem,if_yes,if_no,if_no];rfl)|(simp (disch:=omega) only[go_sem,if_yes,if_no,if_no]))) (by (try simp only[go_sem]);repeat' (first|exact trivial|refine And.intro ?_ ?_|rfl|(simp (disch:=omega) only[go_sem,if_yes,if_no,if_no];rfl)|(simp (disch:=omega) only[go_sem,if_yes,if_no,if_no]))) (HOld.refl _) ?_
 rintro ⟨m,g⟩ c M2 ⟨i1,i2,i3,⟨i4,i5,i6⟩,i7⟩ hc
 dsimp only at i1 i2 i3 i4 i5 i6 i7 hc
 simp only[go_sem]
 repeat' (first|refine st_seq_reg rfl (by first|(simp only[go_sem,i4,i5,hn32];rfl)|rfl) (by first|(simp only[go_sem,i4,i5,hn32];rfl)|rfl) ?_|refine st_reg rfl (by first|(simp only[go_sem,i4,i5,hn32];rfl)|rfl) (by first|(simp only[go_sem,i4,i5,hn32];rfl)|rfl) ?_|refine st_op ?_|refine st_det rfl (by simp (disch:=omega) only[go_sem,wr_i64,i4,i5,hn32];rfl) ?_|refine st_loc rfl (by simp (disch:=omega) only[go_sem,wr_i64,i4,i5,hn32];rfl) ?_|refine st_heap rfl (by simp (disch:=omega) only[go_sem,wr_i64,i4,i5,hn32];rfl) ?_|refine st_store (by simp (disch:=omega) only[go_sem,wr_i64,i4,i5,hn32];rfl) ?_|(refine st_pureE (by first|(simp (disch:=omega) only[go_sem,i4,i5,hn32];rfl)|rfl) rfl (c39 _ _) (by first|(simp only[go_sem,i4,i5,hn32];rfl)|rfl) (by intro n;first|(simp (disch:=omega) only[go_sem];rfl)|rfl) ?_;intro n hn)|refine st_condT rfl ?_|refine st_condF rfl ?_|(refine st_condS rfl ?_ ?_ <;> intro hg <;> (try simp only[dcT,dcF,bnT,bnF] at hg))|refine st_nil ?_|refine st_tN ?_|refine st_seq ?_|refine st_block ?_|refine st_skip ?_|refine st_exit ?_|refine st_ret ?_|refine st_tE ?_|refine st_tR ?_|refine st_bN ?_|refine st_bR ?_|refine st_bH ?_|refine st_bM rfl ?_|refine st_noN ?_|refine st_noR ?_|refine st_noE ?_|refine st_label ?_|refine st_scope tab mixed (by decide) ?_)
 ·refine st_rangeFunc rfl (by simp only[go_sem];rfl) (fun lp D R hR hlp=>?_)
  simp only[go_sem] at hlp
  let L:AH→Prop:=fun g'=>∀ l',l' ≠ lp→g'.lp l'=h.lp l'
  let I:AH→Prop:=fun g'=>g'.lp lp=some R∧L g'∧A g'∧Z g'
  let E:Int→AH→Prop:=fun x g'=>g'.lp lp=some (R.stop .ret)∧L g'∧A g'∧g'.at_ (h.clk,2)=some ⟨1,[[.int .i64 x]]⟩∧g'.at_ (h.clk,3)=some ⟨1,[[.bool true]]⟩
  have hlp2:∀ h':AH,L h'→(h'.lpSet lp none).lp=h.lp:=by
   intro h' h3
   funext l'
   by_cases e:l'=lp
   ·rw [e,lpSet_same,← i7,hlp]
   ·rw [lpSet_ne _ _ e];exact h3 l' e
  refine (c48 lp l.bs.length (m+1) hb (by omega) I E (shortB l) ?_ ?_ ?_ _ ?_ ?_).mono ?_
  ·rintro g' k ⟨h1,h2,⟨h3,h3'⟩,h4⟩ hk
   exact ⟨h1,h2,⟨h3,by show h.clk+2≤k;omega⟩,h4⟩
  ·rintro x g' k ⟨h1,h2,⟨h3,h3'⟩,h4⟩ hk
   exact ⟨h1,h2,⟨h3,by show h.clk+2≤k;omega⟩,h4⟩
  ·rintro s g' ⟨h1,h2,⟨h3,h3'⟩,h4,h5,h6⟩
   refine AYields.canon tab mixed [] [] [] hR h1 rfl (by intro p hp;simp at hp;rcases hp with rfl;decide) [(21,.int .i64 s),(1,.iptr [.lst 4 (l.fs.map Fd.row),.lst 3 (l.bs.map Bl.row)] 0),(2,.ptr (h.clk,2) 0 0),(3,.ptr (h.clk,3) 0 0),(4,.ptr (h.clk+1,4) 0 0)] ⟨rfl,rfl,rfl,rfl,rfl,trivial⟩ rfl rfl ?_
   simp only[go_sem]
   repeat' (first|refine st_seq_reg rfl (by first|(simp only[go_sem];rfl)|rfl) (by first|(simp only[go_sem];rfl)|rfl) ?_|refine st_reg rfl (by first|(simp only[go_sem];rfl)|rfl) (by first|(simp only[go_sem];rfl)|rfl) ?_|refine st_op ?_|refine st_det rfl (by simp (disch:=omega) only[go_sem,wr_i64];rfl) ?_|refine st_loc rfl (by simp (disch:=omega) only[go_sem,wr_i64];rfl) ?_|refine st_heap rfl (by simp (disch:=omega) only[go_sem,wr_i64];rfl) ?_|refine st_store (by simp (disch:=omega) only[go_sem,wr_i64];rfl) ?_|refine st_condT rfl ?_|refine st_condF rfl ?_|(refine st_condS rfl ?_ ?_ <;> intro hg <;> (try simp only[dcT,dcF,bnT,bnF] at hg))|refine st_nil ?_|refine st_tN ?_|refine st_seq ?_|refine st_block ?_|refine st_skip ?_|refine st_exit ?_|refine st_ret ?_|refine st_tE ?_|refine st_tR ?_|refine st_bN ?_|refine st_bR ?_|refine st_bH ?_|refine st_bM rfl ?_|refine st_noN ?_|refine st_noR ?_|refine st_noE ?_|refine st_label ?_|refine st_scope tab mixed (by decide) ?_)
   refine ⟨h1,?_⟩
   dsimp only
   repeat' (first|refine st_seq_reg rfl (by first|(simp only[go_sem,h4,h5,h6,hn32];rfl)|rfl) (by first|(simp only[go_sem,h4,h5,h6,hn32];rfl)|rfl) ?_|refine st_reg rfl (by first|(simp only[go_sem,h4,h5,h6,hn32];rfl)|rfl) (by first|(simp only[go_sem,h4,h5,h6,hn32];rfl)|rfl) ?_|refine st_op ?_|refine st_det rfl (by simp (disch:=omega) only[go_sem,wr_i64,h4,h5,h6,hn32];rfl) ?_|refine st_loc rfl (by simp (disch:=omega) only[go_sem,wr_i64,h4,h5,h6,hn32];rfl) ?_|refine st_heap rfl (by simp (disch:=omega) only[go_sem,wr_i64,h4,h5,h6,hn32];rfl) ?_|refine st_store (by simp (disch:=omega) only[go_sem,wr_i64,h4,h5,h6,hn32];rfl) ?_|(refine st_pureE (by first|(simp (disch:=omega) only[go_sem,h4,h5,h6,hn32];rfl)|rfl) rfl (c26 l (amts l.fs) s hl hr) (by first|(simp only[go_sem,h4,h5,h6,hn32];rfl)|rfl) (by intro n;first|(simp (disch:=omega) only[go_sem];rfl)|rfl) ?_;intro n hn)|refine st_condT rfl ?_|refine st_condF rfl ?_|(refine st_condS rfl ?_ ?_ <;> intro hg <;> (try simp only[dcT,dcF,bnT,bnF] at hg))|refine st_nil ?_|refine st_tN ?_|refine st_seq ?_|refine st_block ?_|refine st_skip ?_|refine st_exit ?_|refine st_ret ?_|refine st_tE ?_|refine st_tR ?_|refine st_bN ?_|refine st_bR ?_|refine st_bH ?_|refine st_bM rfl ?_|refine st_noN ?_|refine st_noR ?_|refine st_noE ?_|refine st_label ?_|refine st_scope tab mixed (by decide) ?_)
   ·refine ⟨by simp only[go_sem],.inr ⟨by simp [shortB, *],rfl,lpSet_same _ _ _,fun l' hl'=>?_,⟨fun b' hb'=>?_,?_⟩,?_,?_⟩⟩
    ·rw [lpSet_ne _ _ hl'];simp only[go_sem];rw [lpSet_ne _ _ hl'];exact h2 l' hl'
    ·simp only[go_sem];rw [if_neg (hne3 b' hb'),if_neg (hne2 b' hb')];exact h3 b' hb'
    ·simp only[go_sem];omega
    ·simp (disch:=omega) only[go_sem,hn23,↓reduceIte,Nat.reduceEqDiff,Nat.reduceLeDiff] <;> rfl
    ·simp (disch:=omega) only[go_sem,↓reduceIte,Nat.reduceEqDiff,Nat.reduceLeDiff] <;> rfl
   ·refine ⟨by simp only[go_sem],.inl ⟨by simp [shortB];omega,rfl,lpSet_same _ _ _,fun l' hl'=>?_,⟨fun b' hb'=>h3 b' hb',?_⟩,h4,h5,h6⟩⟩
    ·rw [lpSet_ne _ _ hl'];simp only[go_sem];rw [lpSet_ne _ _ hl'];exact h2 l' hl'
    ·simp only[go_sem];omega
  ·exact ⟨lpSet_same _ _ _,fun l' hl'=>by rw [lpSet_ne _ _ hl'];simp only[go_sem];rw [i7],⟨fun b' hb'=>i3.1 b' hb',by simp only[go_sem];have:=i3.2;omega⟩,i4,i5,i6⟩
  ·intro k b hk hkb
   simp only[go_sem] at hkb hk
   have h2b:=i3.2
   have q2:¬ ((h.clk,2):Nat × Nat)=b:=fun e=>by rw [← e] at hkb;dsimp only at hkb;omega
   have q3:¬ ((h.clk,3):Nat × Nat)=b:=fun e=>by rw [← e] at hkb;dsimp only at hkb;omega
   have q4:¬ ((h.clk+1,4):Nat × Nat)=b:=fun e=>by rw [← e] at hkb;dsimp only at hkb;omega
   have hob:∀ b':Bid,b'.1 < h.clk→¬ b'=b:=fun b' hb' e=>by rw [e] at hb';omega
   exact ⟨lpSet_same _ _ _,fun l' hl'=>by show (AH.lpSet _ _ _).lp l'=_;rw [lpSet_ne _ _ hl'];simp only[go_sem];rw [i7],⟨fun b' hb'=>by simp only[go_sem];rw [if_neg (hob b' hb')];exact i3.1 b' hb',by show h.clk+2≤k;omega⟩,by simp only[go_sem,q2,↓reduceIte];exact i4,by simp only[go_sem,q3,↓reduceIte];exact i5,by simp only[go_sem,q4,↓reduceIte];exact i6⟩
  ·rintro v h' (⟨hf,h1,h2,⟨h3,h3'⟩,h4,h5,h6⟩|⟨x,hf,h1,h2,⟨h3,h3'⟩,h4,h5⟩)
   ·refine .inl ⟨h1,st_bN (st_bN (st_tN ?_))⟩
    repeat' (first|refine st_seq_reg rfl (by first|(simp only[go_sem];rfl)|rfl) (by first|(simp only[go_sem];rfl)|rfl) ?_|refine st_reg rfl (by first|(simp only[go_sem];rfl)|rfl) (by first|(simp only[go_sem];rfl)|rfl) ?_|refine st_op ?_|refine st_det rfl (by simp (disch:=omega) only[go_sem,wr_i64];rfl) ?_|refine st_loc rfl (by simp (disch:=omega) only[go_sem,wr_i64];rfl) ?_|refine st_heap rfl (by simp (disch:=omega) only[go_sem,wr_i64];rfl) ?_|refine st_store (by simp (disch:=omega) only[go_sem,wr_i64];rfl) ?_|refine st_condT rfl ?_|refine st_condF rfl ?_|(refine st_condS rfl ?_ ?_ <;> intro hg <;> (try simp only[dcT,dcF,bnT,bnF] at hg))|refine st_nil ?_|refine st_tN ?_|refine st_seq ?_|refine st_block ?_|refine st_skip ?_|refine st_exit ?_|refine st_ret ?_|refine st_tE ?_|refine st_tR ?_|refine st_bN ?_|refine st_bR ?_|refine st_bH ?_|refine st_bM rfl ?_|refine st_noN ?_|refine st_noR ?_|refine st_noE ?_|refine st_label ?_|refine st_scope tab mixed (by decide) ?_)
    refine ⟨(m+1,h'.lpSet lp none),⟨by show m+1≤l.bs.length;omega,fnd_none i2 (by rw [Nat.add_comm 1 m];exact hf),⟨fun b' hb'=>h3 b' hb',h3'⟩,⟨h4,h5,h6⟩,hlp2 h' h2⟩,by show l.bs.length - (m+1) < l.bs.length - m;omega,(by repeat' (first|exact trivial|refine And.intro ?_ ?_|rfl|(simp (disch:=omega) only[go_sem,if_yes,if_no,if_no];rfl)|(simp (disch:=omega) only[go_sem,if_yes,if_no,if_no]))),(by repeat' (first|exact trivial|refine And.intro ?_ ?_|rfl|(simp (disch:=omega) only[go_sem,if_yes,if_no,if_no];rfl)|(simp (disch:=omega) only[go_sem,if_yes,if_no,if_no]))),HOld.tick (Nat.le_succ _)⟩
   ·refine .inr ⟨.ret,h1,ASem.ret (st_bR (st_bR (st_tR ?_)))⟩
    repeat' (first|refine st_seq_reg rfl (by first|(simp only[go_sem];rfl)|rfl) (by first|(simp only[go_sem];rfl)|rfl) ?_|refine st_reg rfl (by first|(simp only[go_sem];rfl)|rfl) (by first|(simp only[go_sem];rfl)|rfl) ?_|refine st_op ?_|refine st_det rfl (by simp (disch:=omega) only[go_sem,wr_i64];rfl) ?_|refine st_loc rfl (by simp (disch:=omega) only[go_sem,wr_i64];rfl) ?_|refine st_heap rfl (by simp (disch:=omega) only[go_sem,wr_i64];rfl) ?_|refine st_store (by simp (disch:=omega) only[go_sem,wr_i64];rfl) ?_|refine st_condT rfl ?_|refine st_condF rfl ?_|(refine st_condS rfl ?_ ?_ <;> intro hg <;> (try simp only[dcT,dcF,bnT,bnF] at hg))|refine st_nil ?_|refine st_tN ?_|refine st_seq ?_|refine st_block ?_|refine st_skip ?_|refine st_exit ?_|refine st_ret ?_|refine st_tE ?_|refine st_tR ?_|refine st_bN ?_|refine st_bR ?_|refine st_bH ?_|refine st_bM rfl ?_|refine st_noN ?_|refine st_noR ?_|refine st_noE ?_|refine st_label ?_|refine st_scope tab mixed (by decide) ?_)
    simp (disch:=omega) only[AEnd,Tryd.results22,aresK,fin,go_sem,implies_true,true_and,and_true,List.reverse_cons,List.reverse_nil,hlp2 h' h2,h4,h5]
    refine ⟨h3,?_⟩
    have e:prf l=some x:=wkN_pre (k:=m+1) (fnd_some i2 (by rw [Nat.add_comm 1 m];exact hf)) (by omega)
    rw [e];rfl
 ·obtain rfl:m=l.bs.length:=by omega
  simp (disch:=omega) only[AEnd,Tryd.results22,aresK,fin,go_sem,implies_true,true_and,and_true,List.reverse_cons,List.reverse_nil,hn23]
  refine ⟨fun b' hb'=>by rw [if_neg (hne3 b' hb'),if_neg (hne2 b' hb')];exact i3.1 b' hb',i7,?_⟩
  have e:prf l=none:=i2
  rw [e];rfl
end Go.Proofs.YtefogfgddofdmaaDoor
