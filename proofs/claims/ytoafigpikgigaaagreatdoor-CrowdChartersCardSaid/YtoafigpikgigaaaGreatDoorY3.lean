/- Contracts of functions that the claim reaches: what each call gives, told in our own logic. Conditions: those of each theorem. -/
import Derived.Test.YtoafigpikgigaaaGreatDoorW6
import Derived.Test.YtoafigpikgigaaaGreatDoorY5a
open List (length_map)
set_option linter.all false
set_option linter.unusedSimpArgs false
set_option linter.unusedVariables false
namespace Go.Proofs.YtoafigpikgigaaaGreatDoor
open Go.Av Go.Txt Go.Lib
attribute [local irreducible] thenA blockA awp awpOps awpD awp1
attribute [local go_sem_proc] Nat.reduceAdd Nat.reduceMul Nat.reduceEqDiff Nat.reduceBEq Nat.reduceLeDiff
attribute [local go_sem_proc ↓] reduceIte
attribute [local go_sem] if_yes if_no
set_option maxHeartbeats 8000000
set_option maxRecDepth 20000
theorem c9 (t:Tw):PureG gT Tryz.prog 9 [t.av] (fun v=>v=wrV t):=by
 intro h hgl
 refine ACalls.forgetM ?_
 refine ACalls.ofS tab Tryz.call9 Tryz.func9 rfl (fi:=⟨88,[10,12],[1,22,33,48,85],none,[]⟩) rfl rfl (Nat.le_of_ble_eq_true rfl) ?_
 unfold startA
 try simp only[go_sem]
 refine asem_seq (fi:=⟨88,[10,12],[1,22,33,48,85],none,[]⟩) tab mixed (by decide) ?_
 repeat' (first|refine st_reg rfl (by first|(simp only[go_sem];rfl)|rfl) (by first|(simp only[go_sem];rfl)|rfl) ?_|refine st_op ?_|refine st_det rfl (by simp (disch:=omega) only[go_sem,wr_i64];rfl) ?_|refine st_nil ?_|refine st_tN ?_)
 refine asem_seq (fi:=⟨88,[10,12],[1,22,33,48,85],none,[]⟩) tab mixed (by decide) ?_
 repeat' (first|refine st_seq_reg rfl (by first|(simp only[go_sem];rfl)|rfl) (by first|(simp only[go_sem];rfl)|rfl) ?_|refine st_op ?_|refine st_det rfl (by simp (disch:=omega) only[go_sem,wr_i64];rfl) ?_|(refine st_pureE (by first|(simp (disch:=omega) only[go_sem];rfl)|rfl) rfl (c32 t) (by first|(simp only[go_sem];rfl)|rfl) (by intro n;first|(simp (disch:=omega) only[go_sem];rfl)|rfl) ?_;intro n hn)|(refine st_condS rfl ?_ ?_ <;> intro hg <;> (try simp only[dcT,dcF,bnT,bnF] at hg))|refine st_nil ?_|refine st_tN ?_|refine st_skip ?_|refine st_ret ?_|refine st_tR ?_)
 ·simp (disch:=omega) only[AEnd,Tryz.results9,aresK,fin,go_sem,implies_true,true_and,and_true,List.reverse_cons,List.reverse_nil]
  exact ⟨fun _ _ h=>h,by unfold wrV;rw [if_neg hg]⟩
 refine asem_bdNew tab (by decide) rfl ?_
 intro lb hlb
 have hE:chkE t=0:=by omega
 have hO:=townOk hE
 have hrn:=hO.rn
 have hsn:=hO.sn
 have hgn:=hO.gn
 obtain ⟨g0,hG,hB0,ha0,hgl0,hc0⟩:∃ g0,g0=(((h.tick (n+1)).lpSet lb (some (orec #[.pointer none,.slice none 0 0] 75))))∧BdZ h g0 lb []∧g0.at_=h.at_∧g0.gl=gT∧g0.clk=n+1:=⟨_,rfl,Bd.new (h:=h) hlb,rfl,hgl,rfl⟩
 rw [← hG]
 clear hG hlb
 refine asem_seq (fi:=⟨88,[10,12],[1,22,33,48,85],none,[]⟩) tab mixed (by decide) ?_
 repeat' (first|refine st_reg rfl (by first|(simp only[go_sem];rfl)|rfl) (by first|(simp only[go_sem];rfl)|rfl) ?_|refine st_op ?_|refine st_det rfl (by simp (disch:=omega) only[go_sem,wr_i64];rfl) ?_|refine st_nil ?_|refine st_tN ?_)
 have hlS:(rowT wTown [t.steps]).length≤20:=Nat.le_trans (rowT_sm (w:=wTown) (sp_sm hO)) (show 13≤20 by decide)
 refine asem_seq (fi:=⟨88,[10,12],[1,22,33,48,85],none,[]⟩) tab mixed (by decide) ?_
 repeat' (first|refine st_reg rfl (by first|(simp only[go_sem];rfl)|rfl) (by first|(simp only[go_sem];rfl)|rfl) ?_|refine st_op ?_|refine st_det rfl (by simp (disch:=omega) only[go_sem,wr_i64];rfl) ?_|(refine st_call rfl rfl rfl (c33 wTown [t.steps] lb [] h _ (by exact hgl0) (by exact hB0) ((sp_sm hO).ok (by simp)) (by simp) (by decide)) ?_;rintro v' h1 ⟨rfl,hB1,ha1,hk1,hg1⟩)|refine st_nil ?_|refine st_tN ?_)
 have hB1':BdZ h h1 lb (rowT wTown [t.steps]):=hB1
 have ha1':∀ b':Bid,b'.1 < h.clk→h1.at_ b'=h.at_ b':=fun b' _=>congrFun (ha1.trans ha0) b'
 have hg1':h1.gl=gT:=hg1.trans hgl0
 have hk1':h.clk≤h1.clk:=by
  have e:n+1≤h1.clk:=Nat.le_trans (by simp only[go_sem];omega) hk1
  omega
 clear hB1 ha1 hg1 hk1 hB0 ha0
 refine asem_seq (fi:=⟨88,[10,12],[1,22,33,48,85],none,[]⟩) tab mixed (by decide) ?_
 repeat' (first|refine st_seq_reg rfl (by first|(simp only[go_sem,Lm];rfl)|rfl) (by first|(simp only[go_sem,Lm];rfl)|rfl) ?_|refine st_op ?_|refine st_det rfl (by simp (disch:=omega) only[go_sem,wr_i64,Lm];rfl) ?_|refine st_nil ?_|refine st_block ?_)
 obtain ⟨b0,hb0⟩:∃ b0,b0=rowT wTown [t.steps]:=⟨_,rfl⟩
 rw [← hb0] at hB1' hlS
 refine st_loopH (α:=Nat × AH) tab mixed [] [] (by repeat (first|exact trivial|refine ⟨rfl,?_⟩)) [] [] (by repeat (first|exact trivial|refine ⟨rfl,?_⟩)) (fun a=>[(27,.int .i64 (a.1:Nat))]) [(1,_),(2,_),(3,_),(6,_),(25,_),(26,_),(5,_)] (fun _=>[]) [] (fun a=>a.2) (fun a=>a.1≤t.rooms.length∧BdZ h a.2 lb (b0 ++ (t.rooms.take a.1).flatMap rmT)∧(∀ b':Bid,b'.1 < h.clk→a.2.at_ b'=h.at_ b')∧h.clk≤a.2.clk∧a.2.gl=gT) (fun a=>t.rooms.length - a.1) (by decide) (0,_) (by exact ⟨Nat.zero_le _,by show BdZ h h1 lb _;simpa using hB1',ha1',by show h.clk≤_;try simp only[go_sem];omega,hg1'⟩) (by (try simp only[go_sem]);repeat' (first|exact trivial|refine And.intro ?_ ?_|rfl|(simp (disch:=omega) only[go_sem,if_yes,if_no,if_no];rfl)|(simp (disch:=omega) only[go_sem,if_yes,if_no,if_no]))) (by (try simp only[go_sem]);repeat' (first|exact trivial|refine And.intro ?_ ?_|rfl|(simp (disch:=omega) only[go_sem,if_yes,if_no,if_no];rfl)|(simp (disch:=omega) only[go_sem,if_yes,if_no,if_no]))) (HOld.refl _) ?_
 rintro ⟨i,g2⟩ c2 ⟨hi,hB2,ha2,hk2,hg2⟩ hc2
 dsimp only at hi hB2 ha2 hk2 hg2 hc2
 simp only[go_sem]
 by_cases hil:i < t.rooms.length
 case pos =>
  have hfl:((t.rooms.take i).flatMap rmT).length≤15 * 12:=Nat.le_trans (flat_len (fun x hx=>rmT_len hO (List.mem_of_mem_take hx))) (Nat.mul_le_mul_left _ (by rw [List.length_take];omega))
  have hx:=rm_sm hO (elt_mem hil)
  repeat' (first|refine st_seq_reg rfl (by first|(simp only[go_sem,Lm];rfl)|rfl) (by first|(simp only[go_sem,Lm];rfl)|rfl) ?_|refine st_reg rfl (by first|(simp only[go_sem,Lm];rfl)|rfl) (by first|(simp only[go_sem,Lm];rfl)|rfl) ?_|refine st_op ?_|refine st_det rfl (by simp (disch:=omega) only[go_sem,wr_i64,Lm];rfl) ?_|(refine st_call rfl rfl rfl (c33 wSq [elt t.rooms i] lb _ h _ (by exact hg2) (by exact hB2) (hx.ok (by simp)) (by rw [List.length_append];omega) (by decide)) ?_;rintro v' h2 ⟨rfl,hB3,ha3,hk3,hg3⟩)|(refine st_condS rfl ?_ ?_ <;> intro hg <;> (try simp only[dcT,dcF,bnT,bnF] at hg))|refine st_nil ?_|refine st_tN ?_|refine st_seq ?_|refine st_block ?_|refine st_skip ?_|refine st_exit ?_|refine st_tE ?_|refine st_bN ?_|refine st_bH ?_)
  all_goals try (exfalso;omega)
  have hB4:BdZ h h2 lb (b0 ++ (t.rooms.take (i+1)).flatMap rmT):=by rw [flat_take (d:=0) hil,← List.append_assoc];exact hB3
  have hk4:h.clk≤h2.clk:=Nat.le_trans (Nat.le_trans hk2 (Nat.le_trans hc2 (by simp only[go_sem];omega))) hk3
  refine ⟨(i+1,_),(by exact ⟨by show i+1≤t.rooms.length;omega,hB4,(fun b' hb'=>(congrFun ha3 b').trans (ha2 b' hb')),by show h.clk≤_;try simp only[go_sem];omega,hg3.trans hg2⟩),(by show t.rooms.length - (i+1) < t.rooms.length - i;omega),(by repeat' (first|exact trivial|refine And.intro ?_ ?_|rfl|(simp (disch:=omega) only[go_sem,if_yes,if_no,if_no];rfl)|(simp (disch:=omega) only[go_sem,if_yes,if_no,if_no]))),(by repeat' (first|exact trivial|refine And.intro ?_ ?_|rfl|(simp (disch:=omega) only[go_sem,if_yes,if_no,if_no];rfl)|(simp (disch:=omega) only[go_sem,if_yes,if_no,if_no]))),rfl,HOld.refl _⟩
 obtain rfl:i=t.rooms.length:=by omega
 rw [List.take_length] at hB2
 have hfw:(t.rooms.flatMap rmT).length≤15 * 12:=Nat.le_trans (flat_len (fun x hx=>rmT_len hO hx)) (Nat.mul_le_mul_left _ hrn)
 repeat' (first|refine st_seq_reg rfl (by first|(simp only[go_sem,Lm];rfl)|rfl) (by first|(simp only[go_sem,Lm];rfl)|rfl) ?_|refine st_reg rfl (by first|(simp only[go_sem,Lm];rfl)|rfl) (by first|(simp only[go_sem,Lm];rfl)|rfl) ?_|refine st_op ?_|refine st_det rfl (by simp (disch:=omega) only[go_sem,wr_i64,Lm];rfl) ?_|(refine st_condS rfl ?_ ?_ <;> intro hg <;> (try simp only[dcT,dcF,bnT,bnF] at hg))|refine st_nil ?_|refine st_tN ?_|refine st_seq ?_|refine st_block ?_|refine st_skip ?_|refine st_exit ?_|refine st_tE ?_|refine st_bH ?_)
 all_goals try (exfalso;omega)
 obtain ⟨b1,hb1⟩:∃ b1,b1=b0 ++ t.rooms.flatMap rmT:=⟨_,rfl⟩
 have hl1:b1.length≤200:=by rw [hb1,List.length_append];omega
 rw [← hb1] at hB2
 refine asem_seq (fi:=⟨88,[10,12],[1,22,33,48,85],none,[]⟩) tab mixed (by decide) ?_
 repeat' (first|refine st_seq_reg rfl (by first|(simp only[go_sem,Lm];rfl)|rfl) (by first|(simp only[go_sem,Lm];rfl)|rfl) ?_|refine st_op ?_|refine st_det rfl (by simp (disch:=omega) only[go_sem,wr_i64,Lm];rfl) ?_|refine st_nil ?_|refine st_block ?_)
 refine st_loopH (α:=Nat × AH) tab mixed [] [] (by repeat (first|exact trivial|refine ⟨rfl,?_⟩)) [] [] (by repeat (first|exact trivial|refine ⟨rfl,?_⟩)) (fun a=>[(39,.int .i64 (a.1:Nat))]) [(1,_),(2,_),(3,_),(6,_),(37,_),(38,_),(5,_)] (fun _=>[]) [] (fun a=>a.2) (fun a=>a.1≤t.sts.length∧BdZ h a.2 lb (b1 ++ (t.sts.take a.1).flatMap sxT)∧(∀ b':Bid,b'.1 < h.clk→a.2.at_ b'=h.at_ b')∧h.clk≤a.2.clk∧a.2.gl=gT) (fun a=>t.sts.length - a.1) (by decide) (0,_) (by exact ⟨Nat.zero_le _,by show BdZ h g2 lb _;simpa using hB2,ha2,by show h.clk≤_;try simp only[go_sem];omega,hg2⟩) (by (try simp only[go_sem]);repeat' (first|exact trivial|refine And.intro ?_ ?_|rfl|(simp (disch:=omega) only[go_sem,if_yes,if_no,if_no];rfl)|(simp (disch:=omega) only[go_sem,if_yes,if_no,if_no]))) (by (try simp only[go_sem]);repeat' (first|exact trivial|refine And.intro ?_ ?_|rfl|(simp (disch:=omega) only[go_sem,if_yes,if_no,if_no];rfl)|(simp (disch:=omega) only[go_sem,if_yes,if_no,if_no]))) (HOld.refl _) ?_
 rintro ⟨j,g3⟩ c3 ⟨hj,hB5,ha5,hk5,hg5⟩ hc3
 dsimp only at hj hB5 ha5 hk5 hg5 hc3
 simp only[go_sem]
 by_cases hjl:j < t.sts.length
 case pos =>
  have hfl:((t.sts.take j).flatMap sxT).length≤23 * 12:=Nat.le_trans (flat_len (fun x hx=>sxT_len hO (List.mem_of_mem_take hx))) (Nat.mul_le_mul_left _ (by rw [List.length_take];omega))
  have hx:=sx_sm hO (sx_mem hjl)
  repeat' (first|refine st_seq_reg rfl (by first|(simp only[go_sem,Lm];rfl)|rfl) (by first|(simp only[go_sem,Lm];rfl)|rfl) ?_|refine st_reg rfl (by first|(simp only[go_sem,Lm];rfl)|rfl) (by first|(simp only[go_sem,Lm];rfl)|rfl) ?_|refine st_op ?_|refine st_det rfl (by simp (disch:=omega) only[go_sem,wr_i64,Lm];rfl) ?_|refine st_loc rfl (by simp (disch:=omega) only[go_sem,wr_i64,Lm];rfl) ?_|refine st_store (by simp (disch:=omega) only[go_sem,wr_i64,Lm];rfl) ?_|(refine st_call rfl rfl rfl (c33 wSt [(sx t.sts j).a,(sx t.sts j).b] lb _ h _ (by exact hg5) (by exact hB5) (hx.ok (by simp [sxN])) (by rw [List.length_append];omega) (by decide)) ?_;rintro v' h2 ⟨rfl,hB3,ha3,hk3,hg3⟩)|(refine st_condS rfl ?_ ?_ <;> intro hg <;> (try simp only[dcT,dcF,bnT,bnF] at hg))|refine st_nil ?_|refine st_tN ?_|refine st_seq ?_|refine st_block ?_|refine st_skip ?_|refine st_exit ?_|refine st_tE ?_|refine st_bN ?_|refine st_bH ?_)
  all_goals try (exfalso;omega)
  have hB4:BdZ h h2 lb (b1 ++ (t.sts.take (j+1)).flatMap sxT):=by rw [flat_take (d:=⟨0,0⟩) hjl,← List.append_assoc];exact hB3
  have hk4:h.clk≤h2.clk:=Nat.le_trans (Nat.le_trans hk5 (Nat.le_trans hc3 (by simp only[go_sem];omega))) hk3
  refine ⟨(j+1,_),(by exact ⟨by show j+1≤t.sts.length;omega,hB4,(fun b' hb'=>(congrFun ha3 b').trans (ha5 b' hb')),by show h.clk≤_;try simp only[go_sem];omega,hg3.trans hg5⟩),(by show t.sts.length - (j+1) < t.sts.length - j;omega),(by repeat' (first|exact trivial|refine And.intro ?_ ?_|rfl|(simp (disch:=omega) only[go_sem,if_yes,if_no,if_no];rfl)|(simp (disch:=omega) only[go_sem,if_yes,if_no,if_no]))),(by repeat' (first|exact trivial|refine And.intro ?_ ?_|rfl|(simp (disch:=omega) only[go_sem,if_yes,if_no,if_no];rfl)|(simp (disch:=omega) only[go_sem,if_yes,if_no,if_no]))),rfl,HOld.refl _⟩
 obtain rfl:j=t.sts.length:=by omega
 rw [List.take_length] at hB5
 have hfs:(t.sts.flatMap sxT).length≤23 * 12:=Nat.le_trans (flat_len (fun x hx=>sxT_len hO hx)) (Nat.mul_le_mul_left _ hsn)
 repeat' (first|refine st_seq_reg rfl (by first|(simp only[go_sem,Lm];rfl)|rfl) (by first|(simp only[go_sem,Lm];rfl)|rfl) ?_|refine st_reg rfl (by first|(simp only[go_sem,Lm];rfl)|rfl) (by first|(simp only[go_sem,Lm];rfl)|rfl) ?_|refine st_op ?_|refine st_det rfl (by simp (disch:=omega) only[go_sem,wr_i64,Lm];rfl) ?_|refine st_loc rfl (by simp (disch:=omega) only[go_sem,wr_i64,Lm];rfl) ?_|refine st_store (by simp (disch:=omega) only[go_sem,wr_i64,Lm];rfl) ?_|(refine st_condS rfl ?_ ?_ <;> intro hg <;> (try simp only[dcT,dcF,bnT,bnF] at hg))|refine st_nil ?_|refine st_tN ?_|refine st_seq ?_|refine st_block ?_|refine st_skip ?_|refine st_exit ?_|refine st_tE ?_|refine st_bH ?_)
 all_goals try (exfalso;omega)
 obtain ⟨b2,hb2⟩:∃ b2,b2=b1 ++ t.sts.flatMap sxT:=⟨_,rfl⟩
 have hl2:b2.length≤476:=by rw [hb2,List.length_append];omega
 rw [← hb2] at hB5
 refine asem_seq (fi:=⟨88,[10,12],[1,22,33,48,85],none,[]⟩) tab mixed (by decide) ?_
 repeat' (first|refine st_seq_reg rfl (by first|(simp only[go_sem,Lm];rfl)|rfl) (by first|(simp only[go_sem,Lm];rfl)|rfl) ?_|refine st_op ?_|refine st_det rfl (by simp (disch:=omega) only[go_sem,wr_i64,Lm];rfl) ?_|refine st_nil ?_|refine st_block ?_)
 refine st_loopH (α:=Nat × AH) tab mixed [] [] (by repeat (first|exact trivial|refine ⟨rfl,?_⟩)) [] [] (by repeat (first|exact trivial|refine ⟨rfl,?_⟩)) (fun a=>[(54,.int .i64 (a.1:Nat))]) [(1,_),(2,_),(3,_),(6,_),(52,_),(53,_),(5,_)] (fun _=>[]) [] (fun a=>a.2) (fun a=>a.1≤t.gs.length∧BdZ h a.2 lb (b2 ++ (t.gs.take a.1).flatMap gpT)∧(∀ b':Bid,b'.1 < h.clk→a.2.at_ b'=h.at_ b')∧h.clk≤a.2.clk∧a.2.gl=gT) (fun a=>t.gs.length - a.1) (by decide) (0,_) (by exact ⟨Nat.zero_le _,by show BdZ h g3 lb _;simpa using hB5,ha5,by show h.clk≤_;try simp only[go_sem];omega,hg5⟩) (by (try simp only[go_sem]);repeat' (first|exact trivial|refine And.intro ?_ ?_|rfl|(simp (disch:=omega) only[go_sem,if_yes,if_no,if_no];rfl)|(simp (disch:=omega) only[go_sem,if_yes,if_no,if_no]))) (by (try simp only[go_sem]);repeat' (first|exact trivial|refine And.intro ?_ ?_|rfl|(simp (disch:=omega) only[go_sem,if_yes,if_no,if_no];rfl)|(simp (disch:=omega) only[go_sem,if_yes,if_no,if_no]))) (HOld.refl _) ?_
 rintro ⟨k,g4⟩ c4 ⟨hk,hB6,ha6,hk6,hg6⟩ hc4
 dsimp only at hk hB6 ha6 hk6 hg6 hc4
 simp only[go_sem]
 by_cases hkl:k < t.gs.length
 case pos =>
  have hfl:((t.gs.take k).flatMap gpT).length≤150 * 12:=Nat.le_trans (flat_len (fun x hx=>gpT_len hO (List.mem_of_mem_take hx))) (Nat.mul_le_mul_left _ (by rw [List.length_take];omega))
  have hx:=gp_sm hO (gp_mem hkl)
  have hu:=(hO.g k hkl).many
  repeat' (first|refine st_seq_reg rfl (by first|(simp only[go_sem,Lm,big,List.length_cons,List.length_nil];rfl)|rfl) (by first|(simp only[go_sem,Lm,big,List.length_cons,List.length_nil];rfl)|rfl) ?_|refine st_reg rfl (by first|(simp only[go_sem,Lm,big,List.length_cons,List.length_nil];rfl)|rfl) (by first|(simp only[go_sem,Lm,big,List.length_cons,List.length_nil];rfl)|rfl) ?_|refine st_op ?_|refine st_det rfl (by simp (disch:=omega) only[go_sem,wr_i64,Lm,big,List.length_cons,List.length_nil];rfl) ?_|refine st_loc rfl (by simp (disch:=omega) only[go_sem,wr_i64,Lm,big,List.length_cons,List.length_nil];rfl) ?_|refine st_heap rfl (by simp (disch:=omega) only[go_sem,wr_i64,Lm,big,List.length_cons,List.length_nil];rfl) ?_|refine st_store (by simp (disch:=omega) only[go_sem,wr_i64,Lm,big,List.length_cons,List.length_nil];rfl) ?_|refine st_append (by simp (disch:=omega) only[go_sem,wr_i64,Lm,big,List.length_cons,List.length_nil];rfl) ?_|(refine st_condS rfl ?_ ?_ <;> intro hg <;> (try simp only[dcT,dcF,bnT,bnF] at hg))|refine st_nil ?_|refine st_tN ?_|refine st_seq ?_|refine st_block ?_|refine st_skip ?_|refine st_exit ?_|refine st_tE ?_|refine st_bH ?_)
  all_goals try (exfalso;omega)
  have hfz:∀ b:Bid,[AV.str wGr,.lst 1 ((gpN (gp t.gs k)).map iv),.gptr lb 0]=frzs b ⟨1,(gpN (gp t.gs k)).map iv⟩ [AV.str wGr,.slc b 1 0 (6+(gp t.gs k).path.length),.gptr lb 0]:=fun b=>by
   have e:6+(gp t.gs k).path.length=((gpN (gp t.gs k)).map iv).length:=by simp [gpN];omega
   simp only[frzs,frz]
   rw [if_pos ⟨trivial,by rw [e];omega⟩,List.drop_zero,e,List.take_length]
  refine st_call rfl rfl rfl (ACalls.frzIn (b:=(c4+1+1,78)) (k:=⟨1,(gpN (gp t.gs k)).map iv⟩) (put_same _ _ _) (hfz _) (c33 wGr (gpN (gp t.gs k)) lb _ h _ (by exact hg6) (by exact hB6) (hx.1.ok (by omega)) (by rw [List.length_append];omega) (by decide))) ?_
  rintro v' h2 ⟨rfl,hB3,ha3,hk3,hg3⟩
  repeat' (first|refine st_reg rfl (by first|(simp only[go_sem];rfl)|rfl) (by first|(simp only[go_sem];rfl)|rfl) ?_|refine st_op ?_|refine st_det rfl (by simp (disch:=omega) only[go_sem,wr_i64];rfl) ?_|refine st_nil ?_|refine st_tN ?_|refine st_bN ?_)
  have hB4:BdZ h h2 lb (b2 ++ (t.gs.take (k+1)).flatMap gpT):=by rw [flat_take (d:=⟨0,0,0,0,0,0,[]⟩) hkl,← List.append_assoc];exact hB3
  have hk4:h.clk≤h2.clk:=Nat.le_trans (Nat.le_trans hk6 (Nat.le_trans hc4 (by simp only[go_sem];omega))) hk3
  have ha4:∀ b':Bid,b'.1 < h.clk→h2.at_ b'=h.at_ b':=fun b' hb'=>by
   have hne:∀ d,b' ≠ (c4+1+1,d):=fun d e=>by rw [e] at hb';dsimp only at hb';omega
   rw [ha3,put_ne _ _ (hne _),put_ne _ _ (hne _),put_ne _ _ (hne _)]
   exact ha6 b' hb'
  refine ⟨(k+1,_),(by exact ⟨by show k+1≤t.gs.length;omega,hB4,ha4,by show h.clk≤_;try simp only[go_sem];omega,hg3.trans hg6⟩),(by show t.gs.length - (k+1) < t.gs.length - k;omega),(by repeat' (first|exact trivial|refine And.intro ?_ ?_|rfl|(simp (disch:=omega) only[go_sem,if_yes,if_no,if_no];rfl)|(simp (disch:=omega) only[go_sem,if_yes,if_no,if_no]))),(by repeat' (first|exact trivial|refine And.intro ?_ ?_|rfl|(simp (disch:=omega) only[go_sem,if_yes,if_no,if_no];rfl)|(simp (disch:=omega) only[go_sem,if_yes,if_no,if_no]))),rfl,HOld.refl _⟩
 obtain rfl:k=t.gs.length:=by omega
 rw [List.take_length] at hB6
 have hfg:(t.gs.flatMap gpT).length≤150 * 12:=Nat.le_trans (flat_len (fun x hx=>gpT_len hO hx)) (Nat.mul_le_mul_left _ hgn)
 repeat' (first|refine st_seq_reg rfl (by first|(simp only[go_sem,Lm];rfl)|rfl) (by first|(simp only[go_sem,Lm];rfl)|rfl) ?_|refine st_reg rfl (by first|(simp only[go_sem,Lm];rfl)|rfl) (by first|(simp only[go_sem,Lm];rfl)|rfl) ?_|refine st_op ?_|refine st_det rfl (by simp (disch:=omega) only[go_sem,wr_i64,Lm];rfl) ?_|refine st_loc rfl (by simp (disch:=omega) only[go_sem,wr_i64,Lm];rfl) ?_|refine st_heap rfl (by simp (disch:=omega) only[go_sem,wr_i64,Lm];rfl) ?_|refine st_store (by simp (disch:=omega) only[go_sem,wr_i64,Lm];rfl) ?_|refine st_append (by simp (disch:=omega) only[go_sem,wr_i64,Lm];rfl) ?_|(refine st_condS rfl ?_ ?_ <;> intro hg <;> (try simp only[dcT,dcF,bnT,bnF] at hg))|refine st_nil ?_|refine st_tN ?_|refine st_seq ?_|refine st_block ?_|refine st_skip ?_|refine st_exit ?_|refine st_tE ?_|refine st_bH ?_)
 all_goals try (exfalso;omega)
 refine asem_seq (fi:=⟨88,[10,12],[1,22,33,48,85],none,[]⟩) tab mixed (by decide) ?_
 repeat' (first|refine st_reg rfl (by first|(simp only[go_sem,Lm];rfl)|rfl) (by first|(simp only[go_sem,Lm];rfl)|rfl) ?_|refine st_op ?_|refine st_det rfl (by simp (disch:=omega) only[go_sem,wr_i64,Lm];rfl) ?_|(refine st_call rfl rfl rfl (c33 wEnd [(t.gs.length:Int)] lb _ h _ (by exact hg6) (by exact hB6) ((sm_len (n:=t.gs.length) (by omega)).ok (by simp)) (by rw [List.length_append];omega) (by decide)) ?_;rintro v' h2 ⟨rfl,hB3,ha3,hk3,hg3⟩)|refine st_nil ?_|refine st_tN ?_)
 have eT:b2 ++ t.gs.flatMap gpT ++ rowT wEnd [(t.gs.length:Int)]=cardT t:=by rw [hb2,hb1,hb0];rfl
 rw [eT] at hB3
 have hne:cardT t ≠ []:=by
  rw [← eT];unfold rowT;simp
 refine asem_seq (fi:=⟨88,[10,12],[1,22,33,48,85],none,[]⟩) tab mixed (by decide) ?_
 repeat' (first|refine st_reg rfl (by first|(simp only[go_sem];rfl)|rfl) (by first|(simp only[go_sem];rfl)|rfl) ?_|refine st_op ?_|refine st_det rfl (by simp (disch:=omega) only[go_sem,wr_i64];rfl) ?_|(refine st_callf rfl rfl (c37 (by exact hB3) hne) ?_;rintro v' h4 ⟨rfl,hlp,ha4,hk4,hg4⟩)|refine st_nil ?_|refine st_tN ?_)
 refine asem_awp (fi:=⟨88,[10,12],[1,22,33,48,85],none,[]⟩) tab mixed (by decide) ?_
 repeat' (first|refine st_ret ?_)
 simp (disch:=omega) only[AEnd,Tryz.results9,aresK,fin,go_sem,implies_true,true_and,and_true,List.reverse_cons,List.reverse_nil]
 refine ⟨fun b hb=>?_,hlp,by unfold wrV;rw [if_pos hE]⟩
 rw [ha4]
 show h2.at_ b=_
 rw [ha3]
 exact ha6 b hb
end Go.Proofs.YtoafigpikgigaaaGreatDoor
