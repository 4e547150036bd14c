/- Contracts of functions that the claim reaches: what each call gives, told in our own logic. Conditions: those of each theorem. -/
import Derived.Test.YtaijkalhkgjakaaGreatDoorG6
import Derived.Test.YtaijkalhkgjakaaGreatDoorG16
import Derived.Test.YtaijkalhkgjakaaGreatDoorF5
open List (length_map)
set_option linter.all false
set_option linter.unusedSimpArgs false
set_option linter.unusedVariables false
namespace Go.Proofs.YtaijkalhkgjakaaGreatDoor
open Go.Av Go.Txt Go.Lib
attribute [local irreducible] thenA blockA awp awpOps awpD awp1
attribute [local go_sem_proc] Nat.reduceAdd Nat.reduceMul Nat.reduceEqDiff Nat.reduceBEq Nat.reduceLeDiff
attribute [local go_sem_proc ↓] reduceIte
attribute [local go_sem] if_yes if_no
set_option maxHeartbeats 8000000
set_option maxRecDepth 20000
def bi (b:Bool):Int:=if b=true then 1 else 0
def wShop:List UInt8:=[115,104,111,112]
def wWorker:List UInt8:=[119,111,114,107,101,114]
def wJob:List UInt8:=[106,111,98]
def wEnd:List UInt8:=[101,110,100]
def wkT (x:Wk):List UInt8:=rowT wWorker [bi x.a,bi x.b,bi x.c]
def jbT (x:Jb):List UInt8:=rowT wJob [x.f,x.s,x.d]
def brdT (S:Sp):List UInt8:=rowT wShop [(S.js.length:Int)] ++ S.ws.flatMap wkT ++ S.js.flatMap jbT ++ rowT wEnd []
def wrV (S:Sp):AV:=if shopE S=0 then .tup [.str (brdT S),.int .i64 0] else .tup [.str [],.int .i64 (shopE S)]
theorem ab1 (x:Wk):bitop .and .i64 (wr .i64 (x.sk.tdiv 1)) 1=bi x.a:=by obtain ⟨a,b,c⟩:=x;cases a <;> cases b <;> cases c <;> decide
theorem ab2 (x:Wk):bitop .and .i64 (wr .i64 (x.sk.tdiv 2)) 1=bi x.b:=by obtain ⟨a,b,c⟩:=x;cases a <;> cases b <;> cases c <;> decide
theorem ab4 (x:Wk):bitop .and .i64 (wr .i64 (x.sk.tdiv 4)) 1=bi x.c:=by obtain ⟨a,b,c⟩:=x;cases a <;> cases b <;> cases c <;> decide
theorem rowT_len {w:List UInt8} {l:List Int} (h:∀ x ∈ l,-9223372036854775808≤x∧x≤9223372036854775807):(rowT w l).length≤w.length+22 * l.length+1:=by
 have:=numsT_len h
 unfold rowT
 simp only[List.length_append,List.length_cons,List.length_nil]
 omega
theorem bi_ok (b:Bool):-9223372036854775808≤bi b∧bi b≤9223372036854775807:=by unfold bi;split <;> omega
theorem num3 {a b c:Int} (ha:-9223372036854775808≤a∧a≤9223372036854775807) (hb:-9223372036854775808≤b∧b≤9223372036854775807) (hc:-9223372036854775808≤c∧c≤9223372036854775807):NumOk [a,b,c] :=
 ⟨by simp,fun x hx=>by simp at hx;rcases hx with rfl|rfl|rfl <;> assumption⟩
theorem wkT_len (x:Wk):(wkT x).length≤80:=by
 have:=rowT_len (w:=wWorker) (num3 (bi_ok x.a) (bi_ok x.b) (bi_ok x.c)).2
 have e:wWorker.length=6:=rfl
 unfold wkT
 simp only[List.length_cons,List.length_nil] at this;omega
theorem jbT_len {x:Jb} (h:x.Ok):(jbT x).length≤80:=by
 obtain ⟨h1,h2,h3,h4,h5,h6⟩:=h
 have:=rowT_len (w:=wJob) (num3 (a:=x.f) (b:=x.s) (c:=x.d) (by omega) (by omega) (by omega)).2
 have e:wJob.length=3:=rfl
 unfold jbT
 simp only[List.length_cons,List.length_nil] at this;omega
theorem flat_take {α:Type} {f:α→List UInt8} {l:List α} {d:α} {i:Nat} (h:i < l.length):(l.take (i+1)).flatMap f=(l.take i).flatMap f ++ f (l.getD i d):=by
 rw [List.take_add_one,List.flatMap_append,List.getElem?_eq_getElem h,List.getD_eq_getElem?_getD,List.getElem?_eq_getElem h]
 simp
theorem flat_len {α:Type} {f:α→List UInt8} {n:Nat} {l:List α} (h:∀ x ∈ l,(f x).length≤n):(l.flatMap f).length≤n * l.length:=by
 induction l with
 | nil=>simp
 | cons x l ih =>
  have h1:=h x (by simp)
  have h2:=ih (fun y hy=>h y (by simp [hy]))
  rw [List.flatMap_cons,List.length_append,List.length_cons,Nat.mul_succ]
  omega
theorem c36 (S:Sp):PureG gT Tryz.prog 36 [S.av] (fun v=>v=wrV S):=by
 intro h hgl
 refine ACalls.forgetM ?_
 refine ACalls.ofS tab Tryz.call36 Tryz.func36 rfl (fi:=⟨66,[8,11],[1,22,43,60],none,[]⟩) rfl rfl (Nat.le_of_ble_eq_true rfl) ?_
 unfold startA
 try simp only[go_sem]
 refine asem_seq (fi:=⟨66,[8,11],[1,22,43,60],none,[]⟩) tab mixed (by decide) ?_
 repeat' (first|refine st_reg rfl (by first|(simp only[go_sem];rfl)|rfl) (by first|(simp only[go_sem];rfl)|rfl) ?_|refine st_op ?_|refine st_det rfl (by simp (disch:=omega) only[go_sem,wr_i64];rfl) ?_|refine st_nil ?_|refine st_tN ?_)
 refine asem_seq (fi:=⟨66,[8,11],[1,22,43,60],none,[]⟩) tab mixed (by decide) ?_
 repeat' (first|refine st_seq_reg rfl (by first|(simp only[go_sem];rfl)|rfl) (by first|(simp only[go_sem];rfl)|rfl) ?_|refine st_op ?_|refine st_det rfl (by simp (disch:=omega) only[go_sem,wr_i64];rfl) ?_|(refine st_pureE (by first|(simp (disch:=omega) only[go_sem];rfl)|rfl) rfl (c26 S) (by first|(simp only[go_sem];rfl)|rfl) (by intro n;first|(simp (disch:=omega) only[go_sem];rfl)|rfl) ?_;intro n hn)|(refine st_condS rfl ?_ ?_ <;> intro hg <;> (try simp only[dcT,dcF,bnT,bnF] at hg))|refine st_nil ?_|refine st_tN ?_|refine st_skip ?_|refine st_ret ?_|refine st_tR ?_)
 ·simp (disch:=omega) only[AEnd,Tryz.results36,aresK,fin,go_sem,implies_true,true_and,and_true,List.reverse_cons,List.reverse_nil]
  exact ⟨fun _ _ h=>h,by unfold wrV;rw [if_neg hg]⟩
 refine asem_bdNew tab (by decide) rfl ?_
 intro lb hlb
 have hE:shopE S=0:=by omega
 have hS:=shop_ok hE
 have h4:=hS.m4
 have h7:=hS.n7
 obtain ⟨g0,hG,hB0,ha0,hgl0,hc0⟩:∃ g0,g0=(((h.tick (n+1)).lpSet lb (some (orec #[.pointer none,.slice none 0 0] 139))))∧BdZ h g0 lb []∧g0.at_=h.at_∧g0.gl=gT∧g0.clk=n+1:=⟨_,rfl,Bd.new (h:=h) hlb,rfl,hgl,rfl⟩
 rw [← hG]
 clear hG hlb
 refine asem_seq (fi:=⟨66,[8,11],[1,22,43,60],none,[]⟩) tab mixed (by decide) ?_
 repeat' (first|refine st_reg rfl (by first|(simp only[go_sem];rfl)|rfl) (by first|(simp only[go_sem];rfl)|rfl) ?_|refine st_op ?_|refine st_det rfl (by simp (disch:=omega) only[go_sem,wr_i64];rfl) ?_|refine st_nil ?_|refine st_tN ?_)
 have hlS:(rowT wShop [(S.js.length:Int)]).length≤100:=by
  have:=rowT_len (w:=wShop) (l:=[(S.js.length:Int)]) (fun x hx=>by simp at hx;omega)
  have e:wShop.length=4:=rfl
  simp only[List.length_cons,List.length_nil] at this;omega
 refine asem_seq (fi:=⟨66,[8,11],[1,22,43,60],none,[]⟩) tab mixed (by decide) ?_
 repeat' (first|refine st_reg rfl (by first|(simp only[go_sem,Lm];rfl)|rfl) (by first|(simp only[go_sem,Lm];rfl)|rfl) ?_|refine st_op ?_|refine st_det rfl (by simp (disch:=omega) only[go_sem,wr_i64,Lm];rfl) ?_|(refine st_call rfl rfl rfl (c77 wShop [(S.js.length:Int)] lb [] h _ (by exact hgl0) (by exact hB0) ⟨by simp,fun x hx=>by simp at hx;omega⟩ (by simp) (by decide)) ?_;rintro v' h1 ⟨rfl,hB1,ha1,hk1,hg1⟩)|refine st_nil ?_|refine st_tN ?_)
 have hB1':BdZ h h1 lb (rowT wShop [(S.js.length:Int)]):=hB1
 have ha1':h1.at_=h.at_:=ha1.trans ha0
 have hg1':h1.gl=gT:=hg1.trans hgl0
 have hk1':h.clk≤h1.clk:=by
  have e:n+1≤h1.clk:=Nat.le_trans (by simp only[go_sem];omega) hk1
  omega
 clear hB1 ha1 hg1 hk1 hB0 ha0
 refine asem_seq (fi:=⟨66,[8,11],[1,22,43,60],none,[]⟩) tab mixed (by decide) ?_
 repeat' (first|refine st_seq_reg rfl (by first|(simp only[go_sem,Lm];rfl)|rfl) (by first|(simp only[go_sem,Lm];rfl)|rfl) ?_|refine st_op ?_|refine st_det rfl (by simp (disch:=omega) only[go_sem,wr_i64,Lm];rfl) ?_|refine st_nil ?_|refine st_block ?_)
 obtain ⟨b0,hb0⟩:∃ b0,b0=rowT wShop [(S.js.length:Int)]:=⟨_,rfl⟩
 rw [← hb0] at hB1' hlS
 refine st_loopH (α:=Nat × AH) tab mixed [] [] (by repeat (first|exact trivial|refine ⟨rfl,?_⟩)) [] [] (by repeat (first|exact trivial|refine ⟨rfl,?_⟩)) (fun a=>[(27,.int .i64 (a.1:Nat))]) [(1,_),(2,_),(3,_),(6,_),(25,_),(26,_),(5,_)] (fun _=>[]) [] (fun a=>a.2) (fun a=>a.1≤S.ws.length∧BdZ h a.2 lb (b0 ++ (S.ws.take a.1).flatMap wkT)∧a.2.at_=h.at_∧h.clk≤a.2.clk∧a.2.gl=gT) (fun a=>S.ws.length - a.1) (by decide) (0,_) (by exact ⟨Nat.zero_le _,by show BdZ h h1 lb _;simpa using hB1',ha1',by show h.clk≤_;try simp only[go_sem];omega,hg1'⟩) (by (try simp only[go_sem]);repeat' (first|exact trivial|refine And.intro ?_ ?_|rfl|(simp (disch:=omega) only[go_sem,if_yes,if_no,if_no];rfl)|(simp (disch:=omega) only[go_sem,if_yes,if_no,if_no]))) (by (try simp only[go_sem]);repeat' (first|exact trivial|refine And.intro ?_ ?_|rfl|(simp (disch:=omega) only[go_sem,if_yes,if_no,if_no];rfl)|(simp (disch:=omega) only[go_sem,if_yes,if_no,if_no]))) (HOld.refl _) ?_
 rintro ⟨i,g2⟩ c2 ⟨hi,hB2,ha2,hk2,hg2⟩ hc2
 dsimp only at hi hB2 ha2 hk2 hg2 hc2
 simp only[go_sem]
 by_cases hil:i < S.ws.length
 case pos =>
  have hfl:((S.ws.take i).flatMap wkT).length≤80 * 4:=Nat.le_trans (flat_len (fun x _=>wkT_len x)) (Nat.mul_le_mul_left _ (by rw [List.length_take];omega))
  repeat' (first|refine st_seq_reg rfl (by first|(simp only[go_sem,Lm,ab1,ab2,ab4];rfl)|rfl) (by first|(simp only[go_sem,Lm,ab1,ab2,ab4];rfl)|rfl) ?_|refine st_reg rfl (by first|(simp only[go_sem,Lm,ab1,ab2,ab4];rfl)|rfl) (by first|(simp only[go_sem,Lm,ab1,ab2,ab4];rfl)|rfl) ?_|refine st_op ?_|refine st_det rfl (by simp (disch:=omega) only[go_sem,wr_i64,Lm,ab1,ab2,ab4];rfl) ?_|refine st_loc rfl (by simp (disch:=omega) only[go_sem,wr_i64,Lm,ab1,ab2,ab4];rfl) ?_|refine st_store (by simp (disch:=omega) only[go_sem,wr_i64,Lm,ab1,ab2,ab4];rfl) ?_|(refine st_pureE (by first|(simp (disch:=omega) only[go_sem,Lm,ab1,ab2,ab4];rfl)|rfl) rfl (c74 (wOf S.ws i)) (by first|(simp only[go_sem,Lm,ab1,ab2,ab4];rfl)|rfl) (by intro n;first|(simp (disch:=omega) only[go_sem];rfl)|rfl) ?_;intro n hn)|(refine st_call rfl rfl rfl (c77 wWorker [bi (wOf S.ws i).a,bi (wOf S.ws i).b,bi (wOf S.ws i).c] lb _ h _ (by exact hg2) (by exact hB2) (num3 (bi_ok _) (bi_ok _) (bi_ok _)) (by rw [List.length_append];omega) (by decide)) ?_;rintro v' h2 ⟨rfl,hB3,ha3,hk3,hg3⟩)|(refine st_condS rfl ?_ ?_ <;> intro hg <;> (try simp only[dcT,dcF,bnT,bnF] at hg))|refine st_nil ?_|refine st_tN ?_|refine st_seq ?_|refine st_block ?_|refine st_skip ?_|refine st_exit ?_|refine st_tE ?_|refine st_bN ?_|refine st_bH ?_)
  all_goals try (exfalso;omega)
  have hB4:BdZ h h2 lb (b0 ++ (S.ws.take (i+1)).flatMap wkT):=by rw [flat_take (d:=⟨false,false,false⟩) hil,← List.append_assoc];exact hB3
  have hk4:h.clk≤h2.clk:=Nat.le_trans (Nat.le_trans hk2 (Nat.le_trans hc2 (by simp only[go_sem];omega))) hk3
  refine ⟨(i+1,_),(by exact ⟨by show i+1≤S.ws.length;omega,hB4,ha3.trans ha2,by show h.clk≤_;try simp only[go_sem];omega,hg3.trans hg2⟩),(by show S.ws.length - (i+1) < S.ws.length - i;omega),(by repeat' (first|exact trivial|refine And.intro ?_ ?_|rfl|(simp (disch:=omega) only[go_sem,if_yes,if_no,if_no];rfl)|(simp (disch:=omega) only[go_sem,if_yes,if_no,if_no]))),(by repeat' (first|exact trivial|refine And.intro ?_ ?_|rfl|(simp (disch:=omega) only[go_sem,if_yes,if_no,if_no];rfl)|(simp (disch:=omega) only[go_sem,if_yes,if_no,if_no]))),rfl,HOld.refl _⟩
 obtain rfl:i=S.ws.length:=by omega
 rw [List.take_length] at hB2
 have hfw:(S.ws.flatMap wkT).length≤80 * 4:=Nat.le_trans (flat_len (fun x _=>wkT_len x)) (Nat.mul_le_mul_left _ h4)
 repeat' (first|refine st_seq_reg rfl (by first|(simp only[go_sem,Lm];rfl)|rfl) (by first|(simp only[go_sem,Lm];rfl)|rfl) ?_|refine st_op ?_|refine st_det rfl (by simp (disch:=omega) only[go_sem,wr_i64,Lm];rfl) ?_|refine st_loc rfl (by simp (disch:=omega) only[go_sem,wr_i64,Lm];rfl) ?_|refine st_store (by simp (disch:=omega) only[go_sem,wr_i64,Lm];rfl) ?_|(refine st_condS rfl ?_ ?_ <;> intro hg <;> (try simp only[dcT,dcF,bnT,bnF] at hg))|refine st_nil ?_|refine st_tN ?_|refine st_seq ?_|refine st_block ?_|refine st_skip ?_|refine st_exit ?_|refine st_tE ?_|refine st_bH ?_)
 all_goals try (exfalso;omega)
 obtain ⟨b1,hb1⟩:∃ b1,b1=b0 ++ S.ws.flatMap wkT:=⟨_,rfl⟩
 have hl1:b1.length≤420:=by rw [hb1,List.length_append];omega
 rw [← hb1] at hB2
 have hjl:∀ x ∈ S.js,(jbT x).length≤80:=fun x hx=>jbT_len (hS.job x hx)
 refine asem_seq (fi:=⟨66,[8,11],[1,22,43,60],none,[]⟩) tab mixed (by decide) ?_
 repeat' (first|refine st_seq_reg rfl (by first|(simp only[go_sem,Lm];rfl)|rfl) (by first|(simp only[go_sem,Lm];rfl)|rfl) ?_|refine st_op ?_|refine st_det rfl (by simp (disch:=omega) only[go_sem,wr_i64,Lm];rfl) ?_|refine st_nil ?_|refine st_block ?_)
 refine st_loopH (α:=Nat × AH) tab mixed [] [] (by repeat (first|exact trivial|refine ⟨rfl,?_⟩)) [] [] (by repeat (first|exact trivial|refine ⟨rfl,?_⟩)) (fun a=>[(49,.int .i64 (a.1:Nat))]) [(1,_),(2,_),(3,_),(6,_),(47,_),(48,_),(5,_)] (fun _=>[]) [] (fun a=>a.2) (fun a=>a.1≤S.js.length∧BdZ h a.2 lb (b1 ++ (S.js.take a.1).flatMap jbT)∧a.2.at_=h.at_∧h.clk≤a.2.clk∧a.2.gl=gT) (fun a=>S.js.length - a.1) (by decide) (0,_) (by exact ⟨Nat.zero_le _,by show BdZ h g2 lb _;simpa using hB2,ha2,by show h.clk≤_;try simp only[go_sem];omega,hg2⟩) (by (try simp only[go_sem]);repeat' (first|exact trivial|refine And.intro ?_ ?_|rfl|(simp (disch:=omega) only[go_sem,if_yes,if_no,if_no];rfl)|(simp (disch:=omega) only[go_sem,if_yes,if_no,if_no]))) (by (try simp only[go_sem]);repeat' (first|exact trivial|refine And.intro ?_ ?_|rfl|(simp (disch:=omega) only[go_sem,if_yes,if_no,if_no];rfl)|(simp (disch:=omega) only[go_sem,if_yes,if_no,if_no]))) (HOld.refl _) ?_
 rintro ⟨j,g3⟩ c3 ⟨hj,hB5,ha5,hk5,hg5⟩ hc3
 dsimp only at hj hB5 ha5 hk5 hg5 hc3
 simp only[go_sem]
 by_cases hjs:j < S.js.length
 case pos =>
  have hfl:((S.js.take j).flatMap jbT).length≤80 * 7:=Nat.le_trans (flat_len (fun x hx=>hjl x (List.mem_of_mem_take hx))) (Nat.mul_le_mul_left _ (by rw [List.length_take];omega))
  obtain ⟨q1,q2,q3,q4,q5,q6⟩:=hS.j hjs
  have ej:S.j j=jOf S.js j:=rfl
  rw [ej] at q1 q2 q3 q4 q5 q6
  repeat' (first|refine st_seq_reg rfl (by first|(simp only[go_sem,Lm];rfl)|rfl) (by first|(simp only[go_sem,Lm];rfl)|rfl) ?_|refine st_reg rfl (by first|(simp only[go_sem,Lm];rfl)|rfl) (by first|(simp only[go_sem,Lm];rfl)|rfl) ?_|refine st_op ?_|refine st_det rfl (by simp (disch:=omega) only[go_sem,wr_i64,Lm];rfl) ?_|refine st_loc rfl (by simp (disch:=omega) only[go_sem,wr_i64,Lm];rfl) ?_|refine st_store (by simp (disch:=omega) only[go_sem,wr_i64,Lm];rfl) ?_|(refine st_call rfl rfl rfl (c77 wJob [(jOf S.js j).f,(jOf S.js j).s,(jOf S.js j).d] lb _ h _ (by exact hg5) (by exact hB5) (num3 (by omega) (by omega) (by omega)) (by rw [List.length_append];omega) (by decide)) ?_;rintro v' h2 ⟨rfl,hB3,ha3,hk3,hg3⟩)|(refine st_condS rfl ?_ ?_ <;> intro hg <;> (try simp only[dcT,dcF,bnT,bnF] at hg))|refine st_nil ?_|refine st_tN ?_|refine st_seq ?_|refine st_block ?_|refine st_skip ?_|refine st_exit ?_|refine st_tE ?_|refine st_bN ?_|refine st_bH ?_)
  all_goals try (exfalso;omega)
  have hB4:BdZ h h2 lb (b1 ++ (S.js.take (j+1)).flatMap jbT):=by rw [flat_take (d:=⟨0,0,0⟩) hjs,← List.append_assoc];exact hB3
  have hk4:h.clk≤h2.clk:=Nat.le_trans (Nat.le_trans hk5 (Nat.le_trans hc3 (by simp only[go_sem];omega))) hk3
  refine ⟨(j+1,_),(by exact ⟨by show j+1≤S.js.length;omega,hB4,ha3.trans ha5,by show h.clk≤_;try simp only[go_sem];omega,hg3.trans hg5⟩),(by show S.js.length - (j+1) < S.js.length - j;omega),(by repeat' (first|exact trivial|refine And.intro ?_ ?_|rfl|(simp (disch:=omega) only[go_sem,if_yes,if_no,if_no];rfl)|(simp (disch:=omega) only[go_sem,if_yes,if_no,if_no]))),(by repeat' (first|exact trivial|refine And.intro ?_ ?_|rfl|(simp (disch:=omega) only[go_sem,if_yes,if_no,if_no];rfl)|(simp (disch:=omega) only[go_sem,if_yes,if_no,if_no]))),rfl,HOld.refl _⟩
 obtain rfl:j=S.js.length:=by omega
 rw [List.take_length] at hB5
 have hfj:(S.js.flatMap jbT).length≤80 * 7:=Nat.le_trans (flat_len hjl) (Nat.mul_le_mul_left _ h7)
 repeat' (first|refine st_seq_reg rfl (by first|(simp only[go_sem,Lm];rfl)|rfl) (by first|(simp only[go_sem,Lm];rfl)|rfl) ?_|refine st_reg rfl (by first|(simp only[go_sem,Lm];rfl)|rfl) (by first|(simp only[go_sem,Lm];rfl)|rfl) ?_|refine st_op ?_|refine st_det rfl (by simp (disch:=omega) only[go_sem,wr_i64,Lm];rfl) ?_|refine st_loc rfl (by simp (disch:=omega) only[go_sem,wr_i64,Lm];rfl) ?_|refine st_store (by simp (disch:=omega) only[go_sem,wr_i64,Lm];rfl) ?_|(refine st_condS rfl ?_ ?_ <;> intro hg <;> (try simp only[dcT,dcF,bnT,bnF] at hg))|refine st_nil ?_|refine st_tN ?_|refine st_seq ?_|refine st_block ?_|refine st_skip ?_|refine st_exit ?_|refine st_tE ?_|refine st_bH ?_)
 all_goals try (exfalso;omega)
 refine asem_seq (fi:=⟨66,[8,11],[1,22,43,60],none,[]⟩) tab mixed (by decide) ?_
 repeat' (first|refine st_reg rfl (by first|(simp only[go_sem];rfl)|rfl) (by first|(simp only[go_sem];rfl)|rfl) ?_|refine st_op ?_|refine st_det rfl (by simp (disch:=omega) only[go_sem,wr_i64];rfl) ?_|(refine st_call rfl rfl rfl (c77n wEnd lb _ h _ (by exact hg5) (by exact hB5) (by rw [List.length_append];omega) (by decide)) ?_;rintro v' h2 ⟨rfl,hB3,ha3,hk3,hg3⟩)|refine st_nil ?_|refine st_tN ?_)
 have eT:b1 ++ S.js.flatMap jbT ++ rowT wEnd []=brdT S:=by rw [hb1,hb0];unfold brdT;simp only[List.append_assoc]
 rw [eT] at hB3
 have hne:brdT S ≠ []:=by
  rw [← eT];unfold rowT;simp
 refine asem_seq (fi:=⟨66,[8,11],[1,22,43,60],none,[]⟩) tab mixed (by decide) ?_
 repeat' (first|refine st_reg rfl (by first|(simp only[go_sem];rfl)|rfl) (by first|(simp only[go_sem];rfl)|rfl) ?_|refine st_op ?_|refine st_det rfl (by simp (disch:=omega) only[go_sem,wr_i64];rfl) ?_|(refine st_callf rfl rfl (c81 (by exact hB3) hne) ?_;rintro v' h4 ⟨rfl,hlp,ha4,hk4,hg4⟩)|refine st_nil ?_|refine st_tN ?_)
 refine asem_awp (fi:=⟨66,[8,11],[1,22,43,60],none,[]⟩) tab mixed (by decide) ?_
 repeat' (first|refine st_ret ?_)
 simp (disch:=omega) only[AEnd,Tryz.results36,aresK,fin,go_sem,implies_true,true_and,and_true,List.reverse_cons,List.reverse_nil]
 refine ⟨fun b hb=>?_,hlp,by unfold wrV;rw [if_pos hE]⟩
 rw [ha4]
 show h2.at_ b=_
 rw [ha3]
 exact congrFun ha5 b
end Go.Proofs.YtaijkalhkgjakaaGreatDoor

namespace Go.Proofs.YtaijkalhkgjakaaGreatDoor
open Go.Av
attribute [local irreducible] thenA blockA awp awpOps awpD awp1
attribute [local go_sem_proc] Nat.reduceAdd Nat.reduceMul Nat.reduceEqDiff Nat.reduceBEq Nat.reduceLeDiff
attribute [local go_sem_proc ↓] reduceIte
attribute [local go_sem] if_yes if_no
set_option maxHeartbeats 8000000
set_option maxRecDepth 20000
def DB (l:List Int):Prop:=l.length=7∧∀ i,0≤l.getD i 0∧l.getD i 0≤3000
theorem DB.next {S:Sp} (hS:S.Ok) {x y:Dr} (h:Rt S x) (hd:DB x.day) (hy:y ∈ nextD S x):DB y.day:=by
 obtain ⟨job,i,hj,hi,hs⟩:=mem_nextD.1 hy
 obtain ⟨_,_,_,rfl⟩:=nextAt_some hs
 have b:=h.bd hS
 have h7:=hS.n7
 have hh:=b.h i
 have hf:=b.f (jOf S.js job).f.toNat
 refine ⟨by simp [withD,hd.1],fun k=>?_⟩
 have e:=ixF_set (l:=x.day) (i:=job) (by rw [hd.1];omega) (max (x.hands.getD i 0) (x.fls.getD (jOf S.js job).f.toNat 0))
 have e2:=congrFun e k
 show 0≤ixF (x.day.set job _) k∧ixF (x.day.set job _) k≤3000
 rw [e2]
 by_cases q:k=job
 ·rw [q,upd_same];omega
 ·rw [upd_ne _ _ q];exact hd.2 k
theorem tryD_DB {S:Sp} (hS:S.Ok):∀ (f:Nat) (x:Dr) (st:List Int × Int),Rt S x→DB x.day→DB st.1→DB (tryD S f x st).1:=by
 intro f
 induction f with
 | zero=>intro x st _ _ h;exact h
 | succ f ih =>
  intro x st hx hd hs
  simp only[tryD]
  split
  ·exact hs
  ·split
   ·exact hd
   ·have:∀ (l:List Dr) (st:List Int × Int),(∀ y ∈ l,y ∈ nextD S x)→DB st.1→DB (l.foldl (fun st y=>tryD S f y st) st).1:=by
     intro l
     induction l with
     | nil=>intro st _ h;exact h
     | cons y l ihl =>
      intro st hl h
      have hy:=hl y (by simp)
      exact ihl _ (fun z hz=>hl z (by simp [hz])) (ih y st (hx.next hS hy) (DB.next hS hx hd hy) h)
    exact this _ st (fun _ h=>h) hs
theorem DB.zero:DB (List.replicate 7 0):=⟨rfl,fun i=>by
 rw [List.getD_eq_getElem?_getD,List.getElem?_replicate]
 split <;> simp⟩
theorem earD_DB {S:Sp} (hS:S.Ok):DB (earD S).1:=tryD_DB hS _ _ _ (Rt.start S) DB.zero DB.zero
def bestV (S:Sp):AV:=if (bndV S).2 ≠ 0 then .tup [.nils,.int .i64 0,.int .i64 (bndV S).2] else .tup [.lst 2 ((bestD S).1.map Sf.row),.int .i64 (bestD S).2,.int .i64 0]
theorem best_eq (S:Sp):bestD S=(stfP S (earD S).1,(earD S).2):=rfl
theorem bnd_ok {S:Sp} (h:(bndV S).2=0):S.Ok∧lackD S=false:=by
 unfold bndV at h
 split at h
 ·rename_i q;exact absurd h q
 ·rename_i q
  split at h
  ·exact absurd h (by decide)
  ·rename_i q2
   exact ⟨shop_ok (Decidable.of_not_not q),by simpa using q2⟩
theorem c34 (S:Sp):PureG gB Tryz.prog 34 [S.av] (fun v=>v=bestV S):=by
 intro h hgl
 refine ACalls.forget (ACalls.of tab mixed Tryz.call34 Tryz.func34 rfl (fi:=⟨25,[7],[1],none,[]⟩) rfl rfl (Nat.le_of_ble_eq_true rfl) (by decide) ?_)
 unfold startA
 try simp only[go_sem]
 by_cases hb:(bndV S).2=0
 ·have hS:=(bnd_ok hb).1
  have hD:=earD_DB hS
  repeat' (first|refine st_seq_reg rfl (by first|(simp only[go_sem,aC_take,hb];rfl)|rfl) (by first|(simp only[go_sem,aC_take,hb];rfl)|rfl) ?_|refine st_op ?_|refine st_det rfl (by simp (disch:=omega) only[go_sem,wr_i64,aC_take,hb];rfl) ?_|refine st_loc rfl (by simp (disch:=omega) only[go_sem,wr_i64,aC_take,hb];rfl) ?_|refine st_store (by simp (disch:=omega) only[go_sem,wr_i64,aC_take,hb];rfl) ?_|(refine st_pureGE (by first|(simp (disch:=omega) only[go_sem,aC_take,hb];rfl)|rfl) rfl (c35 S) (by exact hgl) (by first|(simp only[go_sem,aC_take,hb];rfl)|rfl) (by intro n;first|(simp (disch:=omega) only[go_sem];rfl)|rfl) ?_;intro n hn)|(refine st_pureGE (by first|(simp (disch:=omega) only[go_sem,aC_take,hb];rfl)|rfl) rfl (c71 S hS) (by exact hgl) (by first|(simp only[go_sem,aC_take,hb];rfl)|rfl) (by intro n;first|(simp (disch:=omega) only[go_sem];rfl)|rfl) ?_;intro n hn)|(refine st_pureGE (by first|(simp (disch:=omega) only[go_sem,aC_take,hb];rfl)|rfl) rfl (c72 S hS (earD S).1 hD.1 hD.2) (by exact hgl) (by first|(simp only[go_sem,aC_take,hb];rfl)|rfl) (by intro n;first|(simp (disch:=omega) only[go_sem];rfl)|rfl) ?_;intro n hn)|refine st_condF rfl ?_|refine st_nil ?_|refine st_tN ?_|refine st_seq ?_|refine st_skip ?_|refine st_ret ?_)
  all_goals try (exfalso;omega)
  simp (disch:=omega) only[AEnd,Tryz.results34,aresK,fin,go_sem,implies_true,true_and,and_true,List.reverse_cons,List.reverse_nil]
  unfold bestV;rw [if_neg (fun q=>q hb),best_eq]
 ·repeat' (first|refine st_seq_reg rfl (by first|(simp only[go_sem];rfl)|rfl) (by first|(simp only[go_sem];rfl)|rfl) ?_|refine st_op ?_|refine st_det rfl (by simp (disch:=omega) only[go_sem,wr_i64];rfl) ?_|(refine st_pureGE (by first|(simp (disch:=omega) only[go_sem];rfl)|rfl) rfl (c35 S) (by exact hgl) (by first|(simp only[go_sem];rfl)|rfl) (by intro n;first|(simp (disch:=omega) only[go_sem];rfl)|rfl) ?_;intro n hn)|(refine st_condS rfl ?_ ?_ <;> intro hg <;> (try simp only[dcT,dcF,bnT,bnF] at hg))|refine st_nil ?_|refine st_tN ?_|refine st_seq ?_|refine st_skip ?_|refine st_ret ?_|refine st_tR ?_)
  all_goals try (exfalso;omega)
  simp (disch:=omega) only[AEnd,Tryz.results34,aresK,fin,go_sem,implies_true,true_and,and_true,List.reverse_cons,List.reverse_nil]
  unfold bestV;rw [if_pos hb]
end Go.Proofs.YtaijkalhkgjakaaGreatDoor

namespace Go.Proofs.YtaijkalhkgjakaaGreatDoor
open Go.Av
attribute [local irreducible] thenA blockA awp awpOps awpD awp1
attribute [local go_sem_proc] Nat.reduceAdd Nat.reduceMul Nat.reduceEqDiff Nat.reduceBEq Nat.reduceLeDiff
attribute [local go_sem_proc ↓] reduceIte
attribute [local go_sem] if_yes if_no
set_option maxHeartbeats 8000000
set_option maxRecDepth 20000
def wL (arm:Int→Int) (f:Fl) (p m:Int):Int:=wl arm (f.kilos * arm f.mid+m * arm p) f.loads
def wH (arm:Int→Int) (f:Fl) (p m:Int):Int:=wh arm (f.kilos * arm f.mid+m * arm p) f.loads
def oneA:Int→Int:=fun _=>1
def frontA (f:Fl):Int→Int:=fun a=>f.rear - a
def rearA (f:Fl):Int→Int:=fun a=>a - f.front
theorem c151 (f:Fl) (p m:Int) (hf:FlOk f) (hp:0≤p∧p≤3000) (hm:0≤m∧m≤100000):Pure Tryz.prog 151 [Tk.av f p m] (fun v=>v=.agg [.int .i64 (wL oneA f p m),.int .i64 (wH oneA f p m)]):=by
 intro h
 refine ACalls.forget (ACalls.of tab mixed Tryz.call151 Tryz.func151 rfl (fi:=⟨5,[2],[1],none,[]⟩) rfl rfl (Nat.le_of_ble_eq_true rfl) (by decide) ?_)
 unfold startA
 simp only[go_sem]
 repeat' (first|refine st_seq_reg rfl (by first|(simp only[go_sem];rfl)|rfl) (by first|(simp only[go_sem];rfl)|rfl) ?_|refine st_op ?_|refine st_det rfl (by simp (disch:=omega) only[go_sem,wr_i64];rfl) ?_|refine st_loc rfl (by simp (disch:=omega) only[go_sem,wr_i64];rfl) ?_|refine st_store (by simp (disch:=omega) only[go_sem,wr_i64];rfl) ?_|(refine st_pureE (by first|(simp (disch:=omega) only[go_sem];rfl)|rfl) rfl (c145 f p m 172 [] oneA hf hp hm (fun a _ _=>c172 a) (by intros;unfold oneA;omega)) (by first|(simp only[go_sem];rfl)|rfl) (by intro n;first|(simp (disch:=omega) only[go_sem];rfl)|rfl) ?_;intro n hn)|refine st_nil ?_|refine st_ret ?_)
 simp (disch:=omega) only[AEnd,Tryz.results151,aresK,fin,go_sem,implies_true,true_and,and_true,List.reverse_cons,List.reverse_nil]
 rfl
theorem c119 (f:Fl) (p m:Int) (hf:FlOk f) (hp:0≤p∧p≤3000) (hm:0≤m∧m≤100000):Pure Tryz.prog 119 [Tk.av f p m] (fun v=>v=.agg [.int .i64 (wL (frontA f) f p m),.int .i64 (wH (frontA f) f p m)]):=by
 have h1:=hf.len;have h2:=hf.axles
 intro h
 refine ACalls.forget (ACalls.of tab mixed Tryz.call119 Tryz.func119 rfl (fi:=⟨6,[2],[1],none,[]⟩) rfl rfl (Nat.le_of_ble_eq_true rfl) (by decide) ?_)
 unfold startA
 simp only[go_sem]
 repeat' (first|refine st_seq_reg rfl (by first|(simp only[go_sem];rfl)|rfl) (by first|(simp only[go_sem];rfl)|rfl) ?_|refine st_op ?_|refine st_det rfl (by simp (disch:=omega) only[go_sem,wr_i64];rfl) ?_|refine st_loc rfl (by simp (disch:=omega) only[go_sem,wr_i64];rfl) ?_|refine st_store (by simp (disch:=omega) only[go_sem,wr_i64];rfl) ?_|(refine st_pureE (by first|(simp (disch:=omega) only[go_sem];rfl)|rfl) rfl (c145 f p m 146 [.iptr (Tk.av f p m).cells 0] (frontA f) hf hp hm (fun a g1 g2=>c146 f p m a ⟨g1,g2⟩ (by omega)) (by intros;unfold frontA;omega)) (by first|(simp only[go_sem];rfl)|rfl) (by intro n;first|(simp (disch:=omega) only[go_sem];rfl)|rfl) ?_;intro n hn)|refine st_nil ?_|refine st_ret ?_)
 simp (disch:=omega) only[AEnd,Tryz.results119,aresK,fin,go_sem,implies_true,true_and,and_true,List.reverse_cons,List.reverse_nil]
 rfl
theorem c120 (f:Fl) (p m:Int) (hf:FlOk f) (hp:0≤p∧p≤3000) (hm:0≤m∧m≤100000):Pure Tryz.prog 120 [Tk.av f p m] (fun v=>v=.agg [.int .i64 (wL (rearA f) f p m),.int .i64 (wH (rearA f) f p m)]):=by
 have h1:=hf.len;have h2:=hf.axles
 intro h
 refine ACalls.forget (ACalls.of tab mixed Tryz.call120 Tryz.func120 rfl (fi:=⟨6,[2],[1],none,[]⟩) rfl rfl (Nat.le_of_ble_eq_true rfl) (by decide) ?_)
 unfold startA
 simp only[go_sem]
 repeat' (first|refine st_seq_reg rfl (by first|(simp only[go_sem];rfl)|rfl) (by first|(simp only[go_sem];rfl)|rfl) ?_|refine st_op ?_|refine st_det rfl (by simp (disch:=omega) only[go_sem,wr_i64];rfl) ?_|refine st_loc rfl (by simp (disch:=omega) only[go_sem,wr_i64];rfl) ?_|refine st_store (by simp (disch:=omega) only[go_sem,wr_i64];rfl) ?_|(refine st_pureE (by first|(simp (disch:=omega) only[go_sem];rfl)|rfl) rfl (c145 f p m 147 [.iptr (Tk.av f p m).cells 0] (rearA f) hf hp hm (fun a g1 g2=>c147 f p m a ⟨g1,g2⟩ (by omega)) (by intros;unfold rearA;omega)) (by first|(simp only[go_sem];rfl)|rfl) (by intro n;first|(simp (disch:=omega) only[go_sem];rfl)|rfl) ?_;intro n hn)|refine st_nil ?_|refine st_ret ?_)
 simp (disch:=omega) only[AEnd,Tryz.results120,aresK,fin,go_sem,implies_true,true_and,and_true,List.reverse_cons,List.reverse_nil]
 rfl
def tl (s:Int) (l:List Ld):Int:=(l.map (·.tlo)).foldl max s
def th (s:Int) (l:List Ld):Int:=(l.map (·.thi)).foldl max s
@[go_sem] theorem tl_nil (s:Int):tl s []=s:=rfl
@[go_sem] theorem th_nil (s:Int):th s []=s:=rfl
theorem tl_step {s:Int} {l:List Ld} {i:Nat} (h:i < l.length):tl s (l.take (i+1))=max (tl s (l.take i)) (ld l i).tlo:=by
 unfold tl ld;rw [List.take_succ_eq_append_getElem h,List.map_append,List.foldl_append,List.getD_eq_getElem?_getD,List.getElem?_eq_getElem h];rfl
theorem th_step {s:Int} {l:List Ld} {i:Nat} (h:i < l.length):th s (l.take (i+1))=max (th s (l.take i)) (ld l i).thi:=by
 unfold th ld;rw [List.take_succ_eq_append_getElem h,List.map_append,List.foldl_append,List.getD_eq_getElem?_getD,List.getElem?_eq_getElem h];rfl
theorem c149 (f:Fl) (p m:Int) (hf:FlOk f):Pure Tryz.prog 149 [Tk.av f p m] (fun v=>v=.agg [.int .i64 (tl f.high f.loads),.int .i64 (th f.high f.loads)]):=by
 have h4:=hf.loads.1
 have e1:∀ i,i < f.loads.length→_:=fun i h=>tl_step (s:=f.high) h
 have e2:∀ i,i < f.loads.length→_:=fun i h=>th_step (s:=f.high) h
 intro h
 refine ACalls.forget (ACalls.of tab mixed Tryz.call149 Tryz.func149 rfl (fi:=⟨36,[2,3,5],[1],none,[]⟩) rfl rfl (Nat.le_of_ble_eq_true rfl) (by decide) ?_)
 unfold startA
 simp only[go_sem]
 repeat' (first|refine st_seq_reg rfl (by first|(simp only[go_sem];rfl)|rfl) (by first|(simp only[go_sem];rfl)|rfl) ?_|refine st_op ?_|refine st_det rfl (by simp (disch:=omega) only[go_sem,wr_i64];rfl) ?_|refine st_loc rfl (by simp (disch:=omega) only[go_sem,wr_i64];rfl) ?_|refine st_store (by simp (disch:=omega) only[go_sem,wr_i64];rfl) ?_|refine st_nil ?_|refine st_seq ?_|refine st_block ?_)
 refine st_loopC (α:=Nat) tab mixed [3] [_] (by repeat (first|exact trivial|refine ⟨rfl,?_⟩)) [2] [_] (by repeat (first|exact trivial|refine ⟨rfl,?_⟩)) (fun i=>[(17,.int .i64 i)]) [(1,_),(2,_),(3,_),(15,_),(16,_)] (fun i=>[[.int .i64 (tl f.high (f.loads.take i)),.int .i64 (th f.high (f.loads.take i))]]) [_] (fun i=>i≤f.loads.length) (fun i=>f.loads.length - i) (by decide) 0 (by omega) (by (try simp only[go_sem]);repeat' (first|exact trivial|refine And.intro ?_ ?_|rfl|(simp (disch:=omega) only[go_sem,if_yes,if_no,if_no];rfl)|(simp (disch:=omega) only[go_sem,if_yes,if_no,if_no]))) (by (try simp only[go_sem]);repeat' (first|exact trivial|refine And.intro ?_ ?_|rfl|(simp (disch:=omega) only[go_sem,if_yes,if_no,if_no];rfl)|(simp (disch:=omega) only[go_sem,if_yes,if_no,if_no]))) (by first|(simp only[go_sem];rfl)|rfl) (by intro n;simp only[go_sem];rfl) ?_
 rintro i c hi' hc
 simp only[go_sem]
 repeat' (first|refine st_seq_reg rfl (by first|(simp only[go_sem];rfl)|rfl) (by first|(simp only[go_sem];rfl)|rfl) ?_|refine st_reg rfl (by first|(simp only[go_sem];rfl)|rfl) (by first|(simp only[go_sem];rfl)|rfl) ?_|refine st_op ?_|refine st_det rfl (by simp (disch:=omega) only[go_sem,wr_i64];rfl) ?_|refine st_loc rfl (by simp (disch:=omega) only[go_sem,wr_i64];rfl) ?_|refine st_store (by simp (disch:=omega) only[go_sem,wr_i64];rfl) ?_|(refine st_condS rfl ?_ ?_ <;> intro hg <;> (try simp only[dcT,dcF,bnT,bnF] at hg))|refine st_nil ?_|refine st_tN ?_|refine st_seq ?_|refine st_block ?_|refine st_skip ?_|refine st_exit ?_|refine st_ret ?_|refine st_tE ?_|refine st_bN ?_|refine st_bH ?_)
 ·refine ⟨i+1,(by omega),by omega,(by (try (rw [e1 i (by omega),e2 i (by omega)]));repeat' (first|exact trivial|refine And.intro ?_ ?_|rfl|(simp (disch:=omega) only[go_sem,if_yes,if_no,if_no];rfl)|(simp (disch:=omega) only[go_sem,if_yes,if_no,if_no]))),(by (try (rw [e1 i (by omega),e2 i (by omega)]));repeat' (first|exact trivial|refine And.intro ?_ ?_|rfl|(simp (disch:=omega) only[go_sem,if_yes,if_no,if_no];rfl)|(simp (disch:=omega) only[go_sem,if_yes,if_no,if_no]))),rfl,(by first|exact HOld.of _ (by omega)|exact HOld.put _ _ _ (by omega))⟩
 ·rw [List.take_of_length_le (by omega)]
  simp (disch:=omega) only[AEnd,Tryz.results149,aresK,fin,go_sem,implies_true,true_and,and_true,List.reverse_cons,List.reverse_nil]
end Go.Proofs.YtaijkalhkgjakaaGreatDoor
